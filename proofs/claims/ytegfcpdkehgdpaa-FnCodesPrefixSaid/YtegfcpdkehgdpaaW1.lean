/- The walks of the words of codes, of the reference. Conditions: pairs that can be known, a code that has a word. -/
import Derived.Test.YtegfcpdkehgdpaaWd
import Derived.Test.YtegfcpdkehgdpaaKP

namespace Go.Proofs.Ytegfcpdkehgdpaa
open Go.RowKit

theorem infoU8 : (Try.prog.info? 5).map (fun i => (i.zero, i.size, i.bytes)) = some (some (.int .u8 0), 1, 1) := by kernel_rfl
theorem own_empty (w : World) (o : Obj) (t : TypeId) : ((w.alloc o).alloc (.cells #[] t)).ownsRow (w.heap.size + 1) t 1 (.slice (some ⟨w.heap.size + 1, 0, none⟩) 0 0) 0 [] :=
  ⟨rfl, .inr ⟨w.heap.size + 1, 0, #[], rfl, Nat.le_refl _, blk_new2 w o t #[], Nat.le_refl _, Nat.zero_le _, rfl, rfl⟩⟩
theorem keepG6 {w W W' : World} {b base sz n : Nat} {e : TypeId} {v : Value} {xs : List Value} {v0 v1 v2 v3 v4 v5 : Value} (h : Below w.heap.size w W ∧ W.cell? ⟨b, 0, none⟩ = some v0 ∧ W.cell? ⟨b, 1, none⟩ = some v1 ∧ W.cell? ⟨b, 2, none⟩ = some v2 ∧ W.cell? ⟨b, 3, none⟩ = some v3 ∧ W.cell? ⟨b, 4, none⟩ = some v4 ∧ W.cell? ⟨b, 5, none⟩ = some v5) (hown : W.ownsRow base e sz v n xs) (hb : b < base) (hw : w.heap.size ≤ base) (hg : W.grownBy W' v.ownBlock) : Below w.heap.size w W' ∧ W'.cell? ⟨b, 0, none⟩ = some v0 ∧ W'.cell? ⟨b, 1, none⟩ = some v1 ∧ W'.cell? ⟨b, 2, none⟩ = some v2 ∧ W'.cell? ⟨b, 3, none⟩ = some v3 ∧ W'.cell? ⟨b, 4, none⟩ = some v4 ∧ W'.cell? ⟨b, 5, none⟩ = some v5 := by
  have hne : some b ≠ v.ownBlock := fun hv => by have := (hown.lt b hv.symm).1; omega
  exact ⟨h.1.grown hg h.1.size fun k hk => Nat.le_trans hw (hown.lt k hk).1, hg.cell h.2.1 hne, hg.cell h.2.2.1 hne, hg.cell h.2.2.2.1 hne, hg.cell h.2.2.2.2.1 hne, hg.cell h.2.2.2.2.2.1 hne, hg.cell h.2.2.2.2.2.2 hne⟩

theorem belowSet1 {w W : World} {B b i : Nat} (h : Below B w W) (hB : B ≤ b) (u : Value) : Below B w (W.setCell ⟨b, i, none⟩ u) := h.setCell (p := ⟨b, i, none⟩) hB u
theorem word_pcell {W w9 : World} {o : Obj} {pb i base sz n : Nat} {e : TypeId} {v u : Value} {xs : List Value} (h : W.cell? ⟨pb, i, none⟩ = some u) (_hown : W.ownsRow base e sz v n xs) (hne : some pb ≠ v.ownBlock) (hg : (W.alloc o).grownBy w9 v.ownBlock) : w9.cell? ⟨pb, i, none⟩ = some u :=
  hg.cell ((World.cell?_alloc_lt W _ _ (World.block_lt_of_cell? W _ h)).trans h) hne
theorem own_ne {w2 : World} {pb base sz n : Nat} {e : TypeId} {v : Value} {xs : List Value} (hown : w2.ownsRow base e sz v n xs) (h : w2.heap.size ≤ pb) : some pb ≠ v.ownBlock := fun hv => by have := (hown.lt pb hv.symm).2; omega
theorem bvals_set_at (L : List UInt8) (k : Nat) (b : UInt8) : (bvals L).set k (.int .u8 (b.toNat : Int)) = bvals (L.set k b) := by simp [bvals, List.map_set]
theorem bvals_getD (L : List UInt8) (k : Nat) (h : k < L.length) : (bvals L)[k]? = some (.int .u8 ((L.getD k 0).toNat : Int)) := by
  rw [List.getD_eq_getElem?_getD, List.getElem?_eq_getElem h, Option.getD_some]; simp [bvals, h]
theorem own_shape1 {w : World} {base n size : Nat} {e : TypeId} {v : Value} {xs : List Value} (h : w.ownsRow base e size v n xs) (h0 : 0 < n) : ∃ g c, v = .slice (some ⟨g, 0, none⟩) n c ∧ base ≤ g := by
  obtain ⟨g, cap, hv, hb, _⟩ := h.form h0
  exact ⟨g, cap, hv, hb⟩

set_option maxRecDepth 100000 in
set_option maxHeartbeats 4000000 in
theorem spec_l2Word (o l m : Int) (A : Option Addr) (c : Nat) (b t x : Int) (ps : List (Int × Int)) (w : World) (hr : PR w w.heap.size A ps) (hl0 : 1 ≤ l) (hl1 : l ≤ 8) (hz : ps.length ≤ 1024) (hp : Sx.pairsOK l ps ps.length = true) (hx : Sx.codeB l ps.length x = true) :
    Calls Try.prog 109 #[kv o l m A ps.length c b t, .int .i64 x] w fun e w' => e = .returned (.string (str (Sx.word l ps x))) ∧ Below w.heap.size w w' := by
  obtain ⟨i0, hi0, hz0, hz1, hz2⟩ := info_parts infoU8
  have t1 := Sx.two_pos l
  have t2 : Sx.two l ≤ 256 := Sx.two_le 8 (by omega)
  have CE := hide (fun wx => spec_l1End o l m wx (by omega) (by omega))
  have kb := (Blk.new w 31 #[.int .i64 o, .int .i64 l, .int .i64 m, .slice A ps.length c, .int .i64 b, .int .i64 t]).alloc (.cells #[] 5)
  have s0 : Below w.heap.size w ((w.alloc (.cells #[.int .i64 o, .int .i64 l, .int .i64 m, .slice A ps.length c, .int .i64 b, .int .i64 t] 31)).alloc (.cells #[] 5)) ∧ ((w.alloc (.cells #[.int .i64 o, .int .i64 l, .int .i64 m, .slice A ps.length c, .int .i64 b, .int .i64 t] 31)).alloc (.cells #[] 5)).cell? ⟨w.heap.size, 0, none⟩ = some (.int .i64 o) ∧ ((w.alloc (.cells #[.int .i64 o, .int .i64 l, .int .i64 m, .slice A ps.length c, .int .i64 b, .int .i64 t] 31)).alloc (.cells #[] 5)).cell? ⟨w.heap.size, 1, none⟩ = some (.int .i64 l) ∧ ((w.alloc (.cells #[.int .i64 o, .int .i64 l, .int .i64 m, .slice A ps.length c, .int .i64 b, .int .i64 t] 31)).alloc (.cells #[] 5)).cell? ⟨w.heap.size, 2, none⟩ = some (.int .i64 m) ∧ ((w.alloc (.cells #[.int .i64 o, .int .i64 l, .int .i64 m, .slice A ps.length c, .int .i64 b, .int .i64 t] 31)).alloc (.cells #[] 5)).cell? ⟨w.heap.size, 3, none⟩ = some (.slice A ps.length c) ∧ ((w.alloc (.cells #[.int .i64 o, .int .i64 l, .int .i64 m, .slice A ps.length c, .int .i64 b, .int .i64 t] 31)).alloc (.cells #[] 5)).cell? ⟨w.heap.size, 4, none⟩ = some (.int .i64 b) ∧ ((w.alloc (.cells #[.int .i64 o, .int .i64 l, .int .i64 m, .slice A ps.length c, .int .i64 b, .int .i64 t] 31)).alloc (.cells #[] 5)).cell? ⟨w.heap.size, 5, none⟩ = some (.int .i64 t) := ⟨((Below.refl _ _).alloc (Nat.le_refl _) _).alloc (by simp) _, kb.cell 0, kb.cell 1, kb.cell 2, kb.cell 3, kb.cell 4, kb.cell 5⟩
  have hrow0 := own_empty w (.cells #[.int .i64 o, .int .i64 l, .int .i64 m, .slice A ps.length c, .int .i64 b, .int .i64 t] 31) 5
  have hxc := Sx.codeB_of hx
  clear kb
  go_enter Try.func109, Try.ntmps109
  go_wp2_with fail
  go_loopw [1, 5, 6] (fun cc u _ wr => ∃ (y : Int) (f : Nat) (L : List UInt8), cc = .int .i64 y ∧ Hid (Sx.codeB l ps.length y = true) ∧ Hid (y ≤ Sx.two l + 1 + (f : Int) ∧ L.length + f = ps.length ∧ L ++ Sx.wrev l ps f y = Sx.wrev l ps ps.length x) ∧ wr.ownsRow (w.heap.size + 1) 5 1 u L.length (bvals L) ∧ Below w.heap.size w wr ∧ wr.cell? ⟨w.heap.size, 0, none⟩ = some (.int .i64 o) ∧ wr.cell? ⟨w.heap.size, 1, none⟩ = some (.int .i64 l) ∧ wr.cell? ⟨w.heap.size, 2, none⟩ = some (.int .i64 m) ∧ wr.cell? ⟨w.heap.size, 3, none⟩ = some (.slice A ps.length c) ∧ wr.cell? ⟨w.heap.size, 4, none⟩ = some (.int .i64 b) ∧ wr.cell? ⟨w.heap.size, 5, none⟩ = some (.int .i64 t)) (fun cc _ _ _ => (intOf cc).toNat)
  case atStart => exact ⟨x, ps.length, [], rfl, hx, ⟨by omega, by simp, rfl⟩, hrow0, s0⟩
  case round =>
    obtain ⟨y, f, L, rfl, HY, HF, hrow, hS⟩ := hrel
    obtain ⟨hB, c0, c1, c2, c3, c4, c5⟩ := hS
    have hle : L.length ≤ 1024 := by have := HF.out; omega
    have hyc := Sx.codeB_of HY.out
    go_wp2_with fail
    refine ((unhide CE) _).mono ?_; rintro e w2 ⟨rfl, hb2⟩
    have s2 := keep6 hb2 ⟨hB, c0, c1, c2, c3, c4, c5⟩
    have hrow2 := own_below hrow hb2
    clear hB c0 c1 c2 c3 c4 c5 hrow hb2
    by_cases hlt : Sx.two l + 1 < y
    · obtain ⟨i, f', hi, rfl, rfl, HC, h1, h2, hy0, hy1, HW⟩ := Sx.word_step hp HY.out HF.out.1 hlt
      obtain ⟨pg, po, rfl, hpg, hpc⟩ := hr (by omega)
      have hx2 := hpc i hi
      have HN := hide (show (L ++ [Sx.byteI (ps[i]).2]) ++ Sx.wrev l ps f' (ps[i]).1 = Sx.wrev l ps ps.length x by have := HF.out.2.2; rw [HW] at this; rw [← this]; simp)
      have HLn := HF.out.2.1
      have HV := hide (Sx.byteI_val hy0 (by omega))
      have HC := hide HC
      generalize (ps[i]).1 = px at *
      generalize (ps[i]).2 = py at *
      have s3 : Below w.heap.size w w2.drew ∧ w2.drew.cell? ⟨w.heap.size, 0, none⟩ = some (.int .i64 o) ∧ w2.drew.cell? ⟨w.heap.size, 1, none⟩ = some (.int .i64 l) ∧ w2.drew.cell? ⟨w.heap.size, 2, none⟩ = some (.int .i64 m) ∧ w2.drew.cell? ⟨w.heap.size, 3, none⟩ = some (.slice (some ⟨pg, po, none⟩) ps.length c) ∧ w2.drew.cell? ⟨w.heap.size, 4, none⟩ = some (.int .i64 b) ∧ w2.drew.cell? ⟨w.heap.size, 5, none⟩ = some (.int .i64 t) ∧ w2.drew.cell? ⟨pg, po + i * 2, none⟩ = some (.int .i64 px) ∧ w2.drew.cell? ⟨pg, po + i * 2 + 1, none⟩ = some (.int .i64 py) := ⟨s2.1.drew, s2.2.1, s2.2.2.1, s2.2.2.2.1, s2.2.2.2.2.1, s2.2.2.2.2.2.1, s2.2.2.2.2.2.2, (s2.1.cell (p := ⟨pg, po + i * 2, none⟩) hpg).trans hx2.1, (s2.1.cell (p := ⟨pg, po + i * 2 + 1, none⟩) hpg).trans hx2.2⟩
      have e1 : IntKind.i64.wrap (Sx.two l + 2 + (i : Int) - (Sx.two l + 1)) = (i : Int) + 1 := (IntWalk.i64_in _ (by omega)).trans (by omega)
      have e2 : IntKind.i64.wrap (i : Int) = (i : Int) := IntWalk.i64_in _ (by omega)
      have e3 : IntKind.i64.wrap ((i : Int) + 1 - 1) = (i : Int) := (IntWalk.i64_in _ (by omega)).trans (by omega)
      have i0' : (0 : Int) ≤ (i : Int) := Int.natCast_nonneg _
      have i1' : (i : Int) < (ps.length : Int) := by omega
      clear hpc hx2 HW HF HY hyc s2
      obtain ⟨_, c0, c1, c2, c3, c4, c5, x0, x1⟩ := s3
      have s3 : Below w.heap.size w w2.drew ∧ w2.drew.cell? ⟨w.heap.size, 0, none⟩ = some (.int .i64 o) ∧ w2.drew.cell? ⟨w.heap.size, 1, none⟩ = some (.int .i64 l) ∧ w2.drew.cell? ⟨w.heap.size, 2, none⟩ = some (.int .i64 m) ∧ w2.drew.cell? ⟨w.heap.size, 3, none⟩ = some (.slice (some ⟨pg, po, none⟩) ps.length c) ∧ w2.drew.cell? ⟨w.heap.size, 4, none⟩ = some (.int .i64 b) ∧ w2.drew.cell? ⟨w.heap.size, 5, none⟩ = some (.int .i64 t) ∧ w2.drew.cell? ⟨pg, po + i * 2, none⟩ = some (.int .i64 px) ∧ w2.drew.cell? ⟨pg, po + i * 2 + 1, none⟩ = some (.int .i64 py) := ⟨by assumption, c0, c1, c2, c3, c4, c5, x0, x1⟩
      have c0 : w2.cell? ⟨w.heap.size, 0, none⟩ = some (.int .i64 o) := c0
      have c1 : w2.cell? ⟨w.heap.size, 1, none⟩ = some (.int .i64 l) := c1
      have c2 : w2.cell? ⟨w.heap.size, 2, none⟩ = some (.int .i64 m) := c2
      go_wp2_with fail
      refine wp_region_held_drew (S := (fun W => Below w.heap.size w W ∧ W.cell? ⟨w.heap.size, 0, none⟩ = some (.int .i64 o) ∧ W.cell? ⟨w.heap.size, 1, none⟩ = some (.int .i64 l) ∧ W.cell? ⟨w.heap.size, 2, none⟩ = some (.int .i64 m) ∧ W.cell? ⟨w.heap.size, 3, none⟩ = some (.slice (some ⟨pg, po, none⟩) ps.length c) ∧ W.cell? ⟨w.heap.size, 4, none⟩ = some (.int .i64 b) ∧ W.cell? ⟨w.heap.size, 5, none⟩ = some (.int .i64 t) ∧ W.cell? ⟨pg, po + i * 2, none⟩ = some (.int .i64 px) ∧ W.cell? ⟨pg, po + i * 2 + 1, none⟩ = some (.int .i64 py))) (by kernel_rfl) (by first | assumption | exact s3 | exact keep8 (by assumption) (by assumption) | exact keep8 ((Below.refl _ _).alloc (Nat.le_refl _) _) (by assumption) | exact keep8 (belowSet1 (belowSet1 hq (Nat.le_refl _) _) (Nat.le_refl _) _) s3) (fun hHeld => ?_)
      refine wpAnyH_take (i := 0) (oi := { dst := some 15, op := Op.fieldAddr 31 (Operand.tmp 2) 1, type := 0, pos := "l2_words.go:80", after := #[], guard := none }) (v := ?_) rfl (by kernel_rfl) (by kernel_rfl) (by kernel_rfl) (fun _ _ _ h => h) (Or.inl ⟨by rfl, ?_⟩) (by assumption) ?_; rotate_left
      · intro W hW; (try dsimp only at hW); go_simp;  try (with_reducible rfl)
      try simp only [Act.put, List.setIfInBounds_toArray, List.set_cons_zero, List.set_cons_succ]
      refine wpAnyH_take (i := 1) (oi := { dst := some 16, op := Op.load 29 (Operand.tmp 15), type := 29, pos := "l2_words.go:80", after := #[{ on := 0, ground := Ground.data }], guard := none }) (v := ?_) rfl (by kernel_rfl) (by kernel_rfl) (by kernel_rfl) (fun _ _ _ h => h) (Or.inl ⟨by rfl, ?_⟩) (by assumption) ?_; rotate_left
      · intro W hW; (try dsimp only at hW); go_simp;  try (with_reducible rfl)
      try simp only [Act.put, List.setIfInBounds_toArray, List.set_cons_zero, List.set_cons_succ]
      refine wpAnyH_take (i := 2) (oi := { dst := some 17, op := Op.move (Operand.tmp 1), type := 3, pos := "l2_words.go:80", after := #[], guard := none }) (v := ?_) rfl (by kernel_rfl) (by kernel_rfl) (by kernel_rfl) (fun _ _ _ h => h) (Or.inl ⟨by rfl, ?_⟩) (by assumption) ?_; rotate_left
      · intro W hW; (try dsimp only at hW); go_simp;  try (with_reducible rfl)
      try simp only [Act.put, List.setIfInBounds_toArray, List.set_cons_zero, List.set_cons_succ]
      refine wpAnyH_take (i := 3) (oi := { dst := some 18, op := Op.fieldAddr 31 (Operand.tmp 2) 0, type := 0, pos := "l2_words.go:80", after := #[], guard := none }) (v := ?_) rfl (by kernel_rfl) (by kernel_rfl) (by kernel_rfl) (fun _ _ _ h => h) (Or.inl ⟨by rfl, ?_⟩) (by assumption) ?_; rotate_left
      · intro W hW; (try dsimp only at hW); go_simp;  try (with_reducible rfl)
      try simp only [Act.put, List.setIfInBounds_toArray, List.set_cons_zero, List.set_cons_succ]
      refine wpAnyH_take (i := 4) (oi := { dst := some 19, op := Op.load 28 (Operand.tmp 18), type := 28, pos := "l2_words.go:80", after := #[{ on := 3, ground := Ground.data }], guard := none }) (v := ?_) rfl (by kernel_rfl) (by kernel_rfl) (by kernel_rfl) (fun _ _ _ h => h) (Or.inl ⟨by rfl, ?_⟩) (by assumption) ?_; rotate_left
      · intro W hW; (try dsimp only at hW); go_simp;  try (with_reducible rfl)
      try simp only [Act.put, List.setIfInBounds_toArray, List.set_cons_zero, List.set_cons_succ]
      refine wpAnyH_ready (rs := [5, 10]) (by kernel_rfl) (by simp) (AllReadyH.cons (i := 5) (o := { dst := some 20, op := Op.call { callee := Callee.value (Operand.func 87), args := #[Operand.tmp 19], argTypes := #[28] }, type := 3, pos := "l2_words.go:80", after := #[{ on := 4, ground := Ground.data }], guard := none }) rfl (fun K hK => ?_) (AllReadyH.cons (i := 10) (o := { dst := some 6, op := Op.alloc 63, type := 0, pos := "l2_words.go:80", after := #[], guard := none }) rfl (fun K hK => ?_) AllReadyH.nil))
      · skip
        go_simp
        refine ((unhide CE) _).mono ?_; rintro e w' ⟨rfl, hb⟩
        try go_wp2_with fail
        refine hK.out _ _ (by (try dsimp only); first | assumption | exact s3 | exact keep8 (by assumption) (by assumption) | exact keep8 ((Below.refl _ _).alloc (Nat.le_refl _) _) (by assumption) | exact keep8 (belowSet1 (belowSet1 hq (Nat.le_refl _) _) (Nat.le_refl _) _) s3) (fun hHeld => ?_)
        clear hK K
        try simp only [Act.put, List.setIfInBounds_toArray, List.set_cons_zero, List.set_cons_succ]
        refine wpAnyH_take (i := 6) (oi := { dst := some 21, op := Op.binOp BinOp.sub 3 (Operand.tmp 17) (Operand.tmp 20) 3, type := 3, pos := "l2_words.go:80", after := #[{ on := 2, ground := Ground.data }, { on := 5, ground := Ground.data }], guard := none }) (v := ?_) rfl (by kernel_rfl) (by kernel_rfl) (by kernel_rfl) (fun _ _ _ h => h) (Or.inl ⟨by rfl, ?_⟩) (by assumption) ?_; rotate_left
        · intro W hW; (try dsimp only at hW); go_simp;  try (with_reducible rfl)
        try simp only [Act.put, List.setIfInBounds_toArray, List.set_cons_zero, List.set_cons_succ]
        refine wpAnyH_take (i := 7) (oi := { dst := some 22, op := Op.binOp BinOp.sub 3 (Operand.tmp 21) (Operand.const (Value.int IntKind.i64 1)) 3, type := 3, pos := "l2_words.go:80", after := #[{ on := 6, ground := Ground.data }], guard := none }) (v := ?_) rfl (by kernel_rfl) (by kernel_rfl) (by kernel_rfl) (fun _ _ _ h => h) (Or.inl ⟨by rfl, ?_⟩) (by assumption) ?_; rotate_left
        · intro W hW; (try dsimp only at hW); go_simp;  try (with_reducible rfl)
        try simp only [Act.put, List.setIfInBounds_toArray, List.set_cons_zero, List.set_cons_succ]
        refine wpAnyH_take (i := 8) (oi := { dst := some 23, op := Op.indexAddr 29 (Operand.tmp 16) (Operand.tmp 22), type := 0, pos := "l2_words.go:80", after := #[{ on := 1, ground := Ground.data }, { on := 7, ground := Ground.data }], guard := none }) (v := ?_) rfl (by kernel_rfl) (by kernel_rfl) (by kernel_rfl) (fun _ _ _ h => h) (Or.inl ⟨by rfl, ?_⟩) (by assumption) ?_; rotate_left
        · intro W hW; (try dsimp only at hW); go_simp;  try (with_reducible rfl)
        try simp only [Act.put, List.setIfInBounds_toArray, List.set_cons_zero, List.set_cons_succ]
        refine wpAnyH_take (i := 9) (oi := { dst := some 24, op := Op.load 63 (Operand.tmp 23), type := 63, pos := "l2_words.go:80", after := #[{ on := 8, ground := Ground.data }], guard := none }) (v := ?_) rfl (by kernel_rfl) (by kernel_rfl) (by kernel_rfl) (fun _ _ _ h => h) (Or.inl ⟨by rfl, ?_⟩) (by assumption) ?_; rotate_left
        · intro W hW; (try dsimp only at hW); go_simp;  try (with_reducible rfl)
        try simp only [Act.put, List.setIfInBounds_toArray, List.set_cons_zero, List.set_cons_succ]
        refine wpAnyH_ready (rs := [10]) (by kernel_rfl) (by simp) (AllReadyH.cons (i := 10) (o := { dst := some 6, op := Op.alloc 63, type := 0, pos := "l2_words.go:80", after := #[], guard := none }) rfl (fun K hK => ?_) AllReadyH.nil)
        go_simp
        refine hK.out _ _ (by (try dsimp only); first | assumption | exact s3 | exact keep8 (by assumption) (by assumption) | exact keep8 ((Below.refl _ _).alloc (Nat.le_refl _) _) (by assumption) | exact keep8 (belowSet1 (belowSet1 hq (Nat.le_refl _) _) (Nat.le_refl _) _) s3) (fun hHeld => ?_)
        clear hK K
        try simp only [Act.put, List.setIfInBounds_toArray, List.set_cons_zero, List.set_cons_succ]
        refine wpAnyH_ready (rs := [11]) (by kernel_rfl) (by simp) (AllReadyH.cons (i := 11) (o := { dst := none, op := Op.store 63 (Operand.tmp 6) (Operand.tmp 24), type := 0, pos := "l2_words.go:80", after := #[{ on := 10, ground := Ground.data }, { on := 9, ground := Ground.data }, { on := 5, ground := Ground.chain }, { on := 0, ground := Ground.phase }, { on := 1, ground := Ground.phase }, { on := 2, ground := Ground.phase }, { on := 3, ground := Ground.phase }, { on := 4, ground := Ground.phase }, { on := 5, ground := Ground.phase }, { on := 6, ground := Ground.phase }, { on := 7, ground := Ground.phase }, { on := 8, ground := Ground.phase }, { on := 9, ground := Ground.phase }, { on := 10, ground := Ground.phase }], guard := none }) rfl (fun K hK => ?_) AllReadyH.nil)
        go_simp
        refine hK.out _ _ (by (try dsimp only); first | assumption | exact s3 | exact keep8 (by assumption) (by assumption) | exact keep8 ((Below.refl _ _).alloc (Nat.le_refl _) _) (by assumption) | exact keep8 (belowSet1 (belowSet1 hq (Nat.le_refl _) _) (Nat.le_refl _) _) s3) (fun hHeld => ?_)
        clear hK K
        try simp only [Act.put, List.setIfInBounds_toArray, List.set_cons_zero, List.set_cons_succ]
        refine wpAnyH_done (by kernel_rfl) ?_ _
        have hb2 : Below w2.heap.size w2 w' := ⟨hb.os, hb.tape, hb.output, hb.size, hb.block⟩
        have hBW : Below w2.heap.size w2 (w'.alloc (.cells #[.int .i64 px, .int .i64 py] 63)) := hb2.alloc hb.size _
        have z0 : (w'.alloc (.cells #[.int .i64 px, .int .i64 py] 63)).cell? ⟨w'.heap.size, 0, none⟩ = some (.int .i64 px) := (Blk.new w' 63 #[.int .i64 px, .int .i64 py]).cell 0
        have z1 : (w'.alloc (.cells #[.int .i64 px, .int .i64 py] 63)).cell? ⟨w'.heap.size, 1, none⟩ = some (.int .i64 py) := (Blk.new w' 63 #[.int .i64 px, .int .i64 py]).cell 1
        have hpb : w2.heap.size ≤ w'.heap.size := hb.size
        have hHW := hHeld
        generalize (w'.alloc (.cells #[.int .i64 px, .int .i64 py] 63)) = W at hHW hBW z0 z1 ⊢
        obtain ⟨pb, hpbe⟩ : ∃ z, z = w'.heap.size := ⟨_, rfl⟩
        rw [← hpbe] at z0 z1 ⊢
        replace hpb : w2.heap.size ≤ pb := by rw [hpbe]; exact hpb
        have hrow3 := own_below hrow2 hBW
        have hne := own_ne hrow2 hpb
        have e4 : IntKind.u8.wrap py = py := by rw [IntKind.wrap_u8]; omega
        have hszW := hHW.1.size
        clear hpb hpbe hBW hb2 hrow2 c0 c1 c2 c3 c4 c5 x0 x1 s3 hrow0 s0
        go_wp2_with (at_builtin; refine wpList_append_own _ rfl (.tmp 25) (.tmp 29) _ rfl (w.heap.size + 1) 5 i0 (.int .u8 0) 1 1 Try.underlying48 hi0 hz0 hz1 hz2 rfl (by decide) _ _ _ rfl (hrow3.alloc _) ⟨W.heap.size, 0, none⟩ 1 1 [.int .u8 py] rfl rfl (u8_new _ _ _) (by simp [Value.oneCell']) (by simp only [maxLen]; omega) (by omega) (by simp; omega) ?_; intro v' w9 hown' hgrow _; have x0 := word_pcell z0 hrow3 hne hgrow)
        go_roundw
        case rel => exact ⟨px, f', L ++ [Sx.byteI py], rfl, HC.out, ⟨h1, by rw [List.length_append]; simp; omega, HN.out⟩, own_snoc HV.out.symm hown', keepG6 (keep6 ((Below.refl _ _).alloc (Nat.le_refl _) _) ⟨hHW.1, hHW.2.1, hHW.2.2.1, hHW.2.2.2.1, hHW.2.2.2.2.1, hHW.2.2.2.2.2.1, hHW.2.2.2.2.2.2.1⟩) (hrow3.alloc _) (by omega) (by omega) hgrow⟩
        case measure => simp [intOf]; omega
      · skip
        go_simp
        refine hK.out _ _ (by (try dsimp only); first | assumption | exact s3 | exact keep8 (by assumption) (by assumption) | exact keep8 ((Below.refl _ _).alloc (Nat.le_refl _) _) (by assumption) | exact keep8 (belowSet1 (belowSet1 hq (Nat.le_refl _) _) (Nat.le_refl _) _) s3) (fun hHeld => ?_)
        clear hK K
        try simp only [Act.put, List.setIfInBounds_toArray, List.set_cons_zero, List.set_cons_succ]
        refine wpAnyH_ready (rs := [5]) (by kernel_rfl) (by simp) (AllReadyH.cons (i := 5) (o := { dst := some 20, op := Op.call { callee := Callee.value (Operand.func 87), args := #[Operand.tmp 19], argTypes := #[28] }, type := 3, pos := "l2_words.go:80", after := #[{ on := 4, ground := Ground.data }], guard := none }) rfl (fun K hK => ?_) AllReadyH.nil)
        go_simp
        refine ((unhide CE) _).mono ?_; rintro e w' ⟨rfl, hb⟩; have kq := (Blk.new w2 63 #[.int .i64 0, .int .i64 0]).drew.below hb (by simp); have q0 : w'.cell? ⟨w2.heap.size, 0, none⟩ = some (.int .i64 0) := kq.cell 0; have q1 : w'.cell? ⟨w2.heap.size, 1, none⟩ = some (.int .i64 0) := kq.cell 1; have f0 := kq.frozen 0; have f1 := kq.frozen 1; have hq : Below w2.drew.heap.size w2.drew w' := ⟨hb.os, hb.tape, hb.output, Nat.le_trans (by simp) hb.size, fun k hk => (hb.block k (by have : k < w2.heap.size := hk; simp; omega)).trans (Below.heap_alloc w2 _ k hk)⟩
        try go_wp2_with fail
        refine hK.out _ _ (by (try dsimp only); first | assumption | exact s3 | exact keep8 (by assumption) (by assumption) | exact keep8 ((Below.refl _ _).alloc (Nat.le_refl _) _) (by assumption) | exact keep8 (belowSet1 (belowSet1 hq (Nat.le_refl _) _) (Nat.le_refl _) _) s3) (fun hHeld => ?_)
        clear hK K
        try simp only [Act.put, List.setIfInBounds_toArray, List.set_cons_zero, List.set_cons_succ]
        refine wpAnyH_take (i := 6) (oi := { dst := some 21, op := Op.binOp BinOp.sub 3 (Operand.tmp 17) (Operand.tmp 20) 3, type := 3, pos := "l2_words.go:80", after := #[{ on := 2, ground := Ground.data }, { on := 5, ground := Ground.data }], guard := none }) (v := ?_) rfl (by kernel_rfl) (by kernel_rfl) (by kernel_rfl) (fun _ _ _ h => h) (Or.inl ⟨by rfl, ?_⟩) (by assumption) ?_; rotate_left
        · intro W hW; (try dsimp only at hW); go_simp;  try (with_reducible rfl)
        try simp only [Act.put, List.setIfInBounds_toArray, List.set_cons_zero, List.set_cons_succ]
        refine wpAnyH_take (i := 7) (oi := { dst := some 22, op := Op.binOp BinOp.sub 3 (Operand.tmp 21) (Operand.const (Value.int IntKind.i64 1)) 3, type := 3, pos := "l2_words.go:80", after := #[{ on := 6, ground := Ground.data }], guard := none }) (v := ?_) rfl (by kernel_rfl) (by kernel_rfl) (by kernel_rfl) (fun _ _ _ h => h) (Or.inl ⟨by rfl, ?_⟩) (by assumption) ?_; rotate_left
        · intro W hW; (try dsimp only at hW); go_simp;  try (with_reducible rfl)
        try simp only [Act.put, List.setIfInBounds_toArray, List.set_cons_zero, List.set_cons_succ]
        refine wpAnyH_take (i := 8) (oi := { dst := some 23, op := Op.indexAddr 29 (Operand.tmp 16) (Operand.tmp 22), type := 0, pos := "l2_words.go:80", after := #[{ on := 1, ground := Ground.data }, { on := 7, ground := Ground.data }], guard := none }) (v := ?_) rfl (by kernel_rfl) (by kernel_rfl) (by kernel_rfl) (fun _ _ _ h => h) (Or.inl ⟨by rfl, ?_⟩) (by assumption) ?_; rotate_left
        · intro W hW; (try dsimp only at hW); go_simp;  try (with_reducible rfl)
        try simp only [Act.put, List.setIfInBounds_toArray, List.set_cons_zero, List.set_cons_succ]
        refine wpAnyH_take (i := 9) (oi := { dst := some 24, op := Op.load 63 (Operand.tmp 23), type := 63, pos := "l2_words.go:80", after := #[{ on := 8, ground := Ground.data }], guard := none }) (v := ?_) rfl (by kernel_rfl) (by kernel_rfl) (by kernel_rfl) (fun _ _ _ h => h) (Or.inl ⟨by rfl, ?_⟩) (by assumption) ?_; rotate_left
        · intro W hW; (try dsimp only at hW); go_simp;  try (with_reducible rfl)
        try simp only [Act.put, List.setIfInBounds_toArray, List.set_cons_zero, List.set_cons_succ]
        refine wpAnyH_ready (rs := [11]) (by kernel_rfl) (by simp) (AllReadyH.cons (i := 11) (o := { dst := none, op := Op.store 63 (Operand.tmp 6) (Operand.tmp 24), type := 0, pos := "l2_words.go:80", after := #[{ on := 10, ground := Ground.data }, { on := 9, ground := Ground.data }, { on := 5, ground := Ground.chain }, { on := 0, ground := Ground.phase }, { on := 1, ground := Ground.phase }, { on := 2, ground := Ground.phase }, { on := 3, ground := Ground.phase }, { on := 4, ground := Ground.phase }, { on := 5, ground := Ground.phase }, { on := 6, ground := Ground.phase }, { on := 7, ground := Ground.phase }, { on := 8, ground := Ground.phase }, { on := 9, ground := Ground.phase }, { on := 10, ground := Ground.phase }], guard := none }) rfl (fun K hK => ?_) AllReadyH.nil)
        go_simp
        refine hK.out _ _ (by (try dsimp only); first | assumption | exact s3 | exact keep8 (by assumption) (by assumption) | exact keep8 ((Below.refl _ _).alloc (Nat.le_refl _) _) (by assumption) | exact keep8 (belowSet1 (belowSet1 hq (Nat.le_refl _) _) (Nat.le_refl _) _) s3) (fun hHeld => ?_)
        clear hK K
        try simp only [Act.put, List.setIfInBounds_toArray, List.set_cons_zero, List.set_cons_succ]
        refine wpAnyH_done (by kernel_rfl) ?_ _
        have hb2 : Below w2.heap.size w2 w' := ⟨hq.os, hq.tape, hq.output, hq.size, hq.block⟩
        have hBW : Below w2.heap.size w2 ((w'.setCell ⟨w2.heap.size, 0, none⟩ (.int .i64 px)).setCell ⟨w2.heap.size, 1, none⟩ (.int .i64 py)) := belowSet1 (belowSet1 hb2 (Nat.le_refl _) _) (Nat.le_refl _) _
        have z0 : ((w'.setCell ⟨w2.heap.size, 0, none⟩ (.int .i64 px)).setCell ⟨w2.heap.size, 1, none⟩ (.int .i64 py)).cell? ⟨w2.heap.size, 0, none⟩ = some (.int .i64 px) := ((kq.set_ 0 (.int .i64 px)).set_ 1 (.int .i64 py)).cell 0
        have z1 : ((w'.setCell ⟨w2.heap.size, 0, none⟩ (.int .i64 px)).setCell ⟨w2.heap.size, 1, none⟩ (.int .i64 py)).cell? ⟨w2.heap.size, 1, none⟩ = some (.int .i64 py) := ((kq.set_ 0 (.int .i64 px)).set_ 1 (.int .i64 py)).cell 1
        have hpb : w2.heap.size ≤ w2.heap.size := Nat.le_refl _
        have hHW := hHeld
        generalize ((w'.setCell ⟨w2.heap.size, 0, none⟩ (.int .i64 px)).setCell ⟨w2.heap.size, 1, none⟩ (.int .i64 py)) = W at hHW hBW z0 z1 ⊢
        obtain ⟨pb, hpbe⟩ : ∃ z, z = w2.heap.size := ⟨_, rfl⟩
        rw [← hpbe] at z0 z1 ⊢
        replace hpb : w2.heap.size ≤ pb := by rw [hpbe]; exact hpb
        have hrow3 := own_below hrow2 hBW
        have hne := own_ne hrow2 hpb
        have e4 : IntKind.u8.wrap py = py := by rw [IntKind.wrap_u8]; omega
        have hszW := hHW.1.size
        clear hpb hpbe hBW hb2 hrow2 c0 c1 c2 c3 c4 c5 x0 x1 s3 hrow0 s0
        go_wp2_with (at_builtin; refine wpList_append_own _ rfl (.tmp 25) (.tmp 29) _ rfl (w.heap.size + 1) 5 i0 (.int .u8 0) 1 1 Try.underlying48 hi0 hz0 hz1 hz2 rfl (by decide) _ _ _ rfl (hrow3.alloc _) ⟨W.heap.size, 0, none⟩ 1 1 [.int .u8 py] rfl rfl (u8_new _ _ _) (by simp [Value.oneCell']) (by simp only [maxLen]; omega) (by omega) (by simp; omega) ?_; intro v' w9 hown' hgrow _; have x0 := word_pcell z0 hrow3 hne hgrow)
        go_roundw
        case rel => exact ⟨px, f', L ++ [Sx.byteI py], rfl, HC.out, ⟨h1, by rw [List.length_append]; simp; omega, HN.out⟩, own_snoc HV.out.symm hown', keepG6 (keep6 ((Below.refl _ _).alloc (Nat.le_refl _) _) ⟨hHW.1, hHW.2.1, hHW.2.2.1, hHW.2.2.2.1, hHW.2.2.2.2.1, hHW.2.2.2.2.2.1, hHW.2.2.2.2.2.2.1⟩) (hrow3.alloc _) (by omega) (by omega) hgrow⟩
        case measure => simp [intOf]; omega
    · have HW := hide (Sx.wrev_lit (ps := ps) (f := f) hlt)
      have hy2 : 0 ≤ y ∧ y < Sx.two l := by omega
      have HV := hide (Sx.byteI_val hy2.1 (by omega))
      have e4 : IntKind.u8.wrap y = y := by rw [IntKind.wrap_u8]; omega
      have HT := hide (show L ++ [Sx.byteI y] = Sx.wrev l ps ps.length x by have := HF.out.2.2; rw [HW.out] at this; exact this)
      have hsz2 := s2.1.size
      have hTl := Sx.wrev_length l ps ps.length x
      obtain ⟨j0, hj0⟩ : ∃ z, z = w2.heap.size := ⟨_, rfl⟩
      have hs2 : w.heap.size + 1 ≤ w2.heap.size := World.block_lt_of_cell? w2 _ s2.2.1
      clear hj0
      go_wp2_with (at_builtin; refine wpList_append_own _ rfl (.tmp 33) (.tmp 36) _ rfl (w.heap.size + 1) 5 i0 (.int .u8 0) 1 1 Try.underlying48 hi0 hz0 hz1 hz2 rfl (by decide) _ _ _ rfl (hrow2.alloc _) ⟨w2.heap.size, 0, none⟩ 1 1 [.int .u8 y] rfl rfl (u8_new _ _ _) (by simp [Value.oneCell']) (by simp only [maxLen]; omega) (by omega) (by simp; omega) ?_; intro v' w9 hown' hgrow _)
      have hB9 := (s2.1.alloc hsz2 _).grown hgrow (by simp; omega) fun g hg => by have := (hrow2.lt g hg).1; omega
      have hown := own_snoc HV.out.symm hown'
      rw [HT.out] at hown
      clear hown' hgrow HT HV HW HF HY s2 hrow2 hyc
      generalize hT : Sx.wrev l ps ps.length x = TT at hown hTl
      obtain ⟨g, cp, rfl, hgb⟩ := own_shape1 hown (by omega)
      rw [← Sx.swp_zero TT, Sx.swp_length] at hown
      go_loopw [7, 8] (fun i _ wr => ∃ k : Nat, 2 * k ≤ TT.length ∧ i = .int .i64 k ∧ wr.ownsRow (w.heap.size + 1) 5 1 (.slice (some ⟨g, 0, none⟩) TT.length cp) TT.length (bvals (Sx.swp TT k)) ∧ Below w.heap.size w wr) (fun i _ _ => TT.length - (intOf i).toNat)
      case atStart => exact ⟨0, by omega, rfl, hown, hB9⟩
      case round =>
        obtain ⟨k, hk, rfl, hrow, hbw⟩ := hrel
        by_cases hlt2 : 2 * k + 1 < TT.length
        · have HS := Sx.swp_step hlt2
          have hn2 := Sx.swp_length TT k
          obtain ⟨a, ha⟩ : ∃ a, a = (Sx.swp TT k).getD k 0 := ⟨_, rfl⟩
          obtain ⟨d, hd⟩ : ∃ d, d = (Sx.swp TT k).getD (TT.length - 1 - k) 0 := ⟨_, rfl⟩
          have y0 : wr.cell? ⟨g, k, none⟩ = some (.int .u8 (a.toNat : Int)) := (hrow.cellAt k (by omega)).trans (by rw [ha]; exact bvals_getD _ k (by omega))
          have y1 : wr.cell? ⟨g, TT.length - 1 - k, none⟩ = some (.int .u8 (d.toNat : Int)) := (hrow.cellAt (TT.length - 1 - k) (by omega)).trans (by rw [hd]; exact bvals_getD _ _ (by omega))
          have f0 := hrow.frozenAt k
          have f1 := hrow.frozenAt (TT.length - 1 - k)
          have hne : k ≠ TT.length - 1 - k := by omega
          have hst := ((hrow.stored k (.int .u8 (d.toNat : Int))).1.stored (TT.length - 1 - k) (.int .u8 (a.toNat : Int))).1
          rw [← ha, ← hd] at HS
          rw [bvals_set_at, bvals_set_at, HS] at hst
          have hst := hide hst
          clear ha hd hrow hn2 HS
          go_wp2_with fail
          go_roundw
          case rel => exact ⟨k + 1, by omega, by go_num, hst.out, belowSet1 (belowSet1 hbw (by omega) _) (by omega) _⟩
          case measure => simp [intOf]; omega
        · have HR := hide (Sx.swp_end (L := TT) (k := k) (by omega))
          rw [HR.out] at hrow
          have hcv := run_own_string (P := Try.prog) wr 48 9 5 Try.underlying48 Try.underlying5 Try.underlying9 hrow
          have HWd := hide (show Sx.word l ps x = TT.reverse by unfold Sx.word; rw [hT])
          clear hT
          go_wp2_with fail
          go_ret
          exact ⟨ret_str (by rw [HWd.out]), hbw⟩
end Go.Proofs.Ytegfcpdkehgdpaa

/- The walk of what is known after a code that has a word, of the reference. Conditions: the pairs' cells lie below the call's own memory. -/
import Derived.Test.YtegfcpdkehgdpaaAf4
import Derived.Test.YtegfcpdkehgdpaaCw
import Derived.Test.YtegfcpdkehgdpaaRf
namespace Go.Proofs.Ytegfcpdkehgdpaa
open Go.RowKit

theorem keepG7 {w W W' : World} {b g : Nat} {row : Option Nat} {v0 v1 v2 v3 v4 v5 v6 : Value} (h : Below w.heap.size w W ∧ W.cell? ⟨b, 0, none⟩ = some v0 ∧ W.cell? ⟨b, 1, none⟩ = some v1 ∧ W.cell? ⟨b, 2, none⟩ = some v2 ∧ W.cell? ⟨b, 3, none⟩ = some v3 ∧ W.cell? ⟨b, 4, none⟩ = some v4 ∧ W.cell? ⟨b, 5, none⟩ = some v5 ∧ W.cell? ⟨g, 3, none⟩ = some v6) (hg : W.grownBy W' row) (hb : some b ≠ row) (hgr : some g ≠ row) (hr : ∀ k, row = some k → w.heap.size ≤ k) : Below w.heap.size w W' ∧ W'.cell? ⟨b, 0, none⟩ = some v0 ∧ W'.cell? ⟨b, 1, none⟩ = some v1 ∧ W'.cell? ⟨b, 2, none⟩ = some v2 ∧ W'.cell? ⟨b, 3, none⟩ = some v3 ∧ W'.cell? ⟨b, 4, none⟩ = some v4 ∧ W'.cell? ⟨b, 5, none⟩ = some v5 ∧ W'.cell? ⟨g, 3, none⟩ = some v6 :=
  ⟨h.1.grown hg h.1.size hr, hg.cell h.2.1 hb, hg.cell h.2.2.1 hb, hg.cell h.2.2.2.1 hb, hg.cell h.2.2.2.2.1 hb, hg.cell h.2.2.2.2.2.1 hb, hg.cell h.2.2.2.2.2.2.1 hb, hg.cell h.2.2.2.2.2.2.2 hgr⟩
theorem blk_newN (w : World) (t : TypeId) (cs : Array Value) (n : Nat) (h : w.heap.size = n) : Blk (w.alloc (.cells cs t)) n t cs := by subst h; exact Blk.new w t cs
theorem Blk.far6 {w : World} {g g' : Nat} {t : TypeId} {cs : Array Value} (h : Blk w g' t cs) (hne : g' ≠ g) (x0 x1 x2 x3 x4 x5 : Value) : Blk ((((((w.setCell ⟨g, 0, none⟩ x0).setCell ⟨g, 1, none⟩ x1).setCell ⟨g, 2, none⟩ x2).setCell ⟨g, 3, none⟩ x3).setCell ⟨g, 4, none⟩ x4).setCell ⟨g, 5, none⟩ x5) g' t cs :=
  (((((h.far (p := ⟨g, 0, none⟩) hne _).far (p := ⟨g, 1, none⟩) hne _).far (p := ⟨g, 2, none⟩) hne _).far (p := ⟨g, 3, none⟩) hne _).far (p := ⟨g, 4, none⟩) hne _).far (p := ⟨g, 5, none⟩) hne _
theorem below_set6 {B : Nat} {a w : World} {g : Nat} (h : Below B a w) (hg : B ≤ g) (x0 x1 x2 x3 x4 x5 : Value) : Below B a ((((((w.setCell ⟨g, 0, none⟩ x0).setCell ⟨g, 1, none⟩ x1).setCell ⟨g, 2, none⟩ x2).setCell ⟨g, 3, none⟩ x3).setCell ⟨g, 4, none⟩ x4).setCell ⟨g, 5, none⟩ x5) :=
  belowSet (belowSet (belowSet (belowSet (belowSet (belowSet h hg _) hg _) hg _) hg _) hg _) hg _

set_option maxRecDepth 100000 in
set_option maxHeartbeats 2000000 in
theorem after_sameS (o l m : Int) (A : Option Addr) (c : Nat) (b t x : Int) (ps : List (Int × Int)) (w : World) (hr : PR w w.heap.size A ps) (hk : Sx.kOK o l m ps b t = true) (hc : Sx.canB l m ps.length t x = true) (hg : Sx.growsB l m ps.length t = false) :
    Calls Try.prog 101 #[kv o l m A ps.length c b t, .int .i64 x] w fun e w' => ∃ A' c', e = .returned (kv o l m A' (Sx.stepP l m ps b t x).length c' b x) ∧ OwnP w' w.heap.size A' (Sx.stepP l m ps b t x) ∧ (Sx.stepP l m ps b t x).length ≤ c' ∧ Below w.heap.size w w' := by
  have hx : x ≠ Sx.two l := by
    rintro rfl
    rw [Sx.can_mk] at hc; simp at hc
  obtain ⟨i0, hi0, hz0, hz1, hz2⟩ := info_parts try_infoP
  obtain ⟨hl0, hl1, hm0, hm1, hn1, ht1⟩ := Sx.kOK_nums hk
  have h3 := (Sx.kOK_of hk).2.2.2.1
  have B0 : Below w.heap.size w ((w.alloc (.cells #[.int .i64 o, .int .i64 l, .int .i64 m, .slice A ps.length c, .int .i64 b, .int .i64 t] 31)).alloc (.cells #[.int .i64 0, .int .i64 0, .int .i64 0, .slice none 0 0, .int .i64 0, .int .i64 0] 31)) := ((Below.refl _ _).alloc (Nat.le_refl _) _).alloc (by simp) _
  have K0 := ((Blk.new w 31 #[.int .i64 o, .int .i64 l, .int .i64 m, .slice A ps.length c, .int .i64 b, .int .i64 t]).alloc (.cells #[.int .i64 0, .int .i64 0, .int .i64 0, .slice none 0 0, .int .i64 0, .int .i64 0] 31)).drew
  have R0 := (blk_new2 w (.cells #[.int .i64 o, .int .i64 l, .int .i64 m, .slice A ps.length c, .int .i64 b, .int .i64 t] 31) 31 #[.int .i64 0, .int .i64 0, .int .i64 0, .slice none 0 0, .int .i64 0, .int .i64 0]).drew
  have P0 : Reads ((w.alloc (.cells #[.int .i64 o, .int .i64 l, .int .i64 m, .slice A ps.length c, .int .i64 b, .int .i64 t] 31)).alloc (.cells #[.int .i64 0, .int .i64 0, .int .i64 0, .slice none 0 0, .int .i64 0, .int .i64 0] 31)).drew w.heap.size 2 A ps.length (pvals ps) := ((hr.keep (Nat.le_refl _) B0).reads).drew
  have s0 : Below w.heap.size w ((w.alloc (.cells #[.int .i64 o, .int .i64 l, .int .i64 m, .slice A ps.length c, .int .i64 b, .int .i64 t] 31)).alloc (.cells #[.int .i64 0, .int .i64 0, .int .i64 0, .slice none 0 0, .int .i64 0, .int .i64 0] 31)).drew ∧ ((w.alloc (.cells #[.int .i64 o, .int .i64 l, .int .i64 m, .slice A ps.length c, .int .i64 b, .int .i64 t] 31)).alloc (.cells #[.int .i64 0, .int .i64 0, .int .i64 0, .slice none 0 0, .int .i64 0, .int .i64 0] 31)).drew.cell? ⟨w.heap.size, 0, none⟩ = some (.int .i64 o) ∧ ((w.alloc (.cells #[.int .i64 o, .int .i64 l, .int .i64 m, .slice A ps.length c, .int .i64 b, .int .i64 t] 31)).alloc (.cells #[.int .i64 0, .int .i64 0, .int .i64 0, .slice none 0 0, .int .i64 0, .int .i64 0] 31)).drew.cell? ⟨w.heap.size, 1, none⟩ = some (.int .i64 l) ∧ ((w.alloc (.cells #[.int .i64 o, .int .i64 l, .int .i64 m, .slice A ps.length c, .int .i64 b, .int .i64 t] 31)).alloc (.cells #[.int .i64 0, .int .i64 0, .int .i64 0, .slice none 0 0, .int .i64 0, .int .i64 0] 31)).drew.cell? ⟨w.heap.size, 2, none⟩ = some (.int .i64 m) ∧ ((w.alloc (.cells #[.int .i64 o, .int .i64 l, .int .i64 m, .slice A ps.length c, .int .i64 b, .int .i64 t] 31)).alloc (.cells #[.int .i64 0, .int .i64 0, .int .i64 0, .slice none 0 0, .int .i64 0, .int .i64 0] 31)).drew.cell? ⟨w.heap.size, 3, none⟩ = some (.slice A ps.length c) ∧ ((w.alloc (.cells #[.int .i64 o, .int .i64 l, .int .i64 m, .slice A ps.length c, .int .i64 b, .int .i64 t] 31)).alloc (.cells #[.int .i64 0, .int .i64 0, .int .i64 0, .slice none 0 0, .int .i64 0, .int .i64 0] 31)).drew.cell? ⟨w.heap.size, 4, none⟩ = some (.int .i64 b) ∧ ((w.alloc (.cells #[.int .i64 o, .int .i64 l, .int .i64 m, .slice A ps.length c, .int .i64 b, .int .i64 t] 31)).alloc (.cells #[.int .i64 0, .int .i64 0, .int .i64 0, .slice none 0 0, .int .i64 0, .int .i64 0] 31)).drew.cell? ⟨w.heap.size, 5, none⟩ = some (.int .i64 t) := ⟨B0.drew, K0.cell 0, K0.cell 1, K0.cell 2, K0.cell 3, K0.cell 4, K0.cell 5⟩
  have CG := hide (fun wx => spec_l2Grows o l m A ps.length c b t wx (by omega) (by omega) (by omega) (by omega) (by omega))
  have HP := hide (Sx.adv_same (b := b) (y := Sx.fstB (str (Sx.anyW l ps t x))) hx hg)
  rw [show Sx.advP l m ps b t x (Sx.fstB (str (Sx.anyW l ps t x))) = Sx.stepP l m ps b t x from rfl] at HP
  rw [hg] at CG
  clear hx hg hc hk h3 ht1
  go_enter Try.func101, Try.ntmps101
  go_wp2_with fail
  refine wp_region_final_drew (S := (fun W => Below w.heap.size w W ∧ W.cell? ⟨w.heap.size, 0, none⟩ = some (.int .i64 o) ∧ W.cell? ⟨w.heap.size, 1, none⟩ = some (.int .i64 l) ∧ W.cell? ⟨w.heap.size, 2, none⟩ = some (.int .i64 m) ∧ W.cell? ⟨w.heap.size, 3, none⟩ = some (.slice A ps.length c) ∧ W.cell? ⟨w.heap.size, 4, none⟩ = some (.int .i64 b) ∧ W.cell? ⟨w.heap.size, 5, none⟩ = some (.int .i64 t))) 11 (by kernel_rfl) (by first | assumption | exact s0) (fun hHeld => ?_)
  refine wpAnyF_take (i := 0) (oi := { dst := some 6, op := Op.fieldAddr 31 (Operand.tmp 2) 0, type := 0, pos := "l2_words.go:138", after := #[], guard := none }) (v := ?_) rfl (by kernel_rfl) (by kernel_rfl) (by kernel_rfl) (by kernel_rfl) (fun _ _ _ h => h) (Or.inl ⟨by rfl, ?_⟩) (by assumption) ?_; rotate_left
  · intro W hW; (try dsimp only at hW); go_simp;  try (with_reducible rfl)
  try simp only [Act.put, List.setIfInBounds_toArray, List.set_cons_zero, List.set_cons_succ]
  refine wpAnyF_take (i := 1) (oi := { dst := some 7, op := Op.load 28 (Operand.tmp 6), type := 28, pos := "l2_words.go:138", after := #[{ on := 0, ground := Ground.data }], guard := none }) (v := ?_) rfl (by kernel_rfl) (by kernel_rfl) (by kernel_rfl) (by kernel_rfl) (fun _ _ _ h => h) (Or.inl ⟨by rfl, ?_⟩) (by assumption) ?_; rotate_left
  · intro W hW; (try dsimp only at hW); go_simp;  try (with_reducible rfl)
  try simp only [Act.put, List.setIfInBounds_toArray, List.set_cons_zero, List.set_cons_succ]
  refine wpAnyF_take (i := 3) (oi := { dst := some 9, op := Op.fieldAddr 31 (Operand.tmp 2) 1, type := 0, pos := "l2_words.go:138", after := #[], guard := none }) (v := ?_) rfl (by kernel_rfl) (by kernel_rfl) (by kernel_rfl) (by kernel_rfl) (fun _ _ _ h => h) (Or.inl ⟨by rfl, ?_⟩) (by assumption) ?_; rotate_left
  · intro W hW; (try dsimp only at hW); go_simp;  try (with_reducible rfl)
  try simp only [Act.put, List.setIfInBounds_toArray, List.set_cons_zero, List.set_cons_succ]
  refine wpAnyF_take (i := 4) (oi := { dst := some 10, op := Op.load 29 (Operand.tmp 9), type := 29, pos := "l2_words.go:138", after := #[{ on := 3, ground := Ground.data }], guard := none }) (v := ?_) rfl (by kernel_rfl) (by kernel_rfl) (by kernel_rfl) (by kernel_rfl) (fun _ _ _ h => h) (Or.inl ⟨by rfl, ?_⟩) (by assumption) ?_; rotate_left
  · intro W hW; (try dsimp only at hW); go_simp;  try (with_reducible rfl)
  try simp only [Act.put, List.setIfInBounds_toArray, List.set_cons_zero, List.set_cons_succ]
  refine wpAnyF_take (i := 6) (oi := { dst := some 12, op := Op.fieldAddr 31 (Operand.tmp 2) 2, type := 0, pos := "l2_words.go:138", after := #[], guard := none }) (v := ?_) rfl (by kernel_rfl) (by kernel_rfl) (by kernel_rfl) (by kernel_rfl) (fun _ _ _ h => h) (Or.inl ⟨by rfl, ?_⟩) (by assumption) ?_; rotate_left
  · intro W hW; (try dsimp only at hW); go_simp;  try (with_reducible rfl)
  try simp only [Act.put, List.setIfInBounds_toArray, List.set_cons_zero, List.set_cons_succ]
  refine wpAnyF_take (i := 7) (oi := { dst := some 13, op := Op.load 3 (Operand.tmp 12), type := 3, pos := "l2_words.go:138", after := #[{ on := 6, ground := Ground.data }], guard := none }) (v := ?_) rfl (by kernel_rfl) (by kernel_rfl) (by kernel_rfl) (by kernel_rfl) (fun _ _ _ h => h) (Or.inl ⟨by rfl, ?_⟩) (by assumption) ?_; rotate_left
  · intro W hW; (try dsimp only at hW); go_simp;  try (with_reducible rfl)
  try simp only [Act.put, List.setIfInBounds_toArray, List.set_cons_zero, List.set_cons_succ]
  refine wpAnyF_take (i := 8) (oi := { dst := some 14, op := Op.move (Operand.tmp 1), type := 3, pos := "l2_words.go:138", after := #[], guard := none }) (v := ?_) rfl (by kernel_rfl) (by kernel_rfl) (by kernel_rfl) (by kernel_rfl) (fun _ _ _ h => h) (Or.inl ⟨by rfl, ?_⟩) (by assumption) ?_; rotate_left
  · intro W hW; (try dsimp only at hW); go_simp;  try (with_reducible rfl)
  try simp only [Act.put, List.setIfInBounds_toArray, List.set_cons_zero, List.set_cons_succ]
  refine wpAnyF_ready (rs := [2, 10]) (by kernel_rfl) (by simp) (AllReadyF.cons (i := 2) (o := { dst := some 8, op := Op.buildSlice 29 0 #[], type := 29, pos := "l2_words.go:138", after := #[], guard := none }) rfl (fun K hK => ?_) (AllReadyF.cons (i := 10) (o := { dst := some 5, op := Op.alloc 31, type := 0, pos := "l2_words.go:138", after := #[], guard := none }) rfl (fun K hK => ?_) AllReadyF.nil))
  · skip
    go_simp
    have R1 := R0.alloc (.cells #[] 63)
    have K1 := K0.alloc (.cells #[] 63)
    have O1 := own_base (own_emptyP ((w.alloc (.cells #[.int .i64 o, .int .i64 l, .int .i64 m, .slice A ps.length c, .int .i64 b, .int .i64 t] 31)).alloc (.cells #[.int .i64 0, .int .i64 0, .int .i64 0, .slice none 0 0, .int .i64 0, .int .i64 0] 31)).drew 63 2 (w.heap.size + 2) (by first | rfl | (simp; done))) (by omega : w.heap.size + 2 ≤ (w.heap.size + 2))
    have P1 := P0.alloc (by first | omega | (simp; done) | (simp; omega)) (.cells #[] 63)
    refine hK.out _ _ (by (try dsimp only); first | exact keep6 ((Below.refl _ _).alloc (Nat.le_refl _) _) (by assumption)) (fun hHeld => ?_)
    clear hK K
    try simp only [Act.put, List.setIfInBounds_toArray, List.set_cons_zero, List.set_cons_succ]
    refine wpAnyF_ready (rs := [5, 10]) (by kernel_rfl) (by simp) (AllReadyF.cons (i := 5) (o := { dst := some 11, op := Op.call { callee := Callee.builtin Builtin.append, args := #[Operand.tmp 8, Operand.tmp 10], argTypes := #[29, 29] }, type := 29, pos := "l2_words.go:138", after := #[{ on := 2, ground := Ground.data }, { on := 4, ground := Ground.data }], guard := none }) rfl (fun K hK => ?_) (AllReadyF.cons (i := 10) (o := { dst := some 5, op := Op.alloc 31, type := 0, pos := "l2_words.go:138", after := #[], guard := none }) rfl (fun K hK => ?_) AllReadyF.nil))
    · skip
      refine wp_append_any _ _ _ _ rfl (w.heap.size + 2) 63 i0 (.agg #[.int .i64 0, .int .i64 0]) 2 16 Try.underlying29 hi0 hz0 hz1 hz2 (by rfl) (by decide) (.slice (some ⟨w.heap.size + 2, 0, none⟩) 0 0) 0 [] (by first | rfl | simp [Act.eval]) O1 _ A ps.length c (pvals ps) (by first | rfl | simp [Act.eval]) P1 (pvals_one _) (by simp only [maxLen]; omega) (by omega) (by first | omega | (simp; done) | (simp; omega)) ?_
      intro v' w9 hown9 hgrow hsh
      rw [Nat.zero_add, List.nil_append] at hown9
      obtain ⟨A', c', rfl⟩ := own_shapeN hown9
      have hl9 := hown9.lt
      have R2 := R1.grown hgrow (by simp [Value.ownBlock])
      have K2 := K1.grown hgrow (by simp [Value.ownBlock]; try omega)
      have O2 := hown9
      have HK := keepG6' hHeld hgrow (by simp [Value.ownBlock]; try omega) (by simp [Value.ownBlock]; try omega)
      clear hgrow hsh hHeld
      refine hK.out _ _ (by (try dsimp only); first | exact HK) (fun hHeld => ?_)
      clear hK K
      try simp only [Act.put, List.setIfInBounds_toArray, List.set_cons_zero, List.set_cons_succ]
      refine wpAnyF_take (i := 9) (oi := { dst := some 15, op := Op.build 31 #[(0, Operand.tmp 7), (1, Operand.tmp 11), (2, Operand.tmp 13), (3, Operand.tmp 14)], type := 31, pos := "l2_words.go:138", after := #[{ on := 1, ground := Ground.data }, { on := 5, ground := Ground.data }, { on := 7, ground := Ground.data }, { on := 8, ground := Ground.data }], guard := none }) (v := ?_) rfl (by kernel_rfl) (by kernel_rfl) (by kernel_rfl) (by kernel_rfl) (fun _ _ _ h => h) (Or.inl ⟨by rfl, ?_⟩) (by assumption) ?_; rotate_left
      · intro W hW; (try dsimp only at hW); go_simp;  try (with_reducible rfl)
      try simp only [Act.put, List.setIfInBounds_toArray, List.set_cons_zero, List.set_cons_succ]
      refine wpAnyF_ready (rs := [10]) (by kernel_rfl) (by simp) (AllReadyF.cons (i := 10) (o := { dst := some 5, op := Op.alloc 31, type := 0, pos := "l2_words.go:138", after := #[], guard := none }) rfl (fun K hK => ?_) AllReadyF.nil)
      go_simp
      have hrl2 := R2.lt
      have R3 := R2.alloc (.cells #[.int .i64 0, .int .i64 0, .int .i64 0, .slice none 0 0, .int .i64 0, .int .i64 0] 31)
      have K3 := K2.alloc (.cells #[.int .i64 0, .int .i64 0, .int .i64 0, .slice none 0 0, .int .i64 0, .int .i64 0] 31)
      have G3 := blk_newN w9 31 #[.int .i64 0, .int .i64 0, .int .i64 0, .slice none 0 0, .int .i64 0, .int .i64 0] w9.heap.size (by first | rfl | (simp; done))
      have O3 := O2.alloc (.cells #[.int .i64 0, .int .i64 0, .int .i64 0, .slice none 0 0, .int .i64 0, .int .i64 0] 31)
      refine hK.out _ _ (by (try dsimp only); first | exact keep6 ((Below.refl _ _).alloc (Nat.le_refl _) _) (by assumption)) (fun hHeld => ?_)
      clear hK K
      try simp only [Act.put, List.setIfInBounds_toArray, List.set_cons_zero, List.set_cons_succ]
      refine wpAnyF_ready (rs := [11]) (by kernel_rfl) (by simp) (AllReadyF.last (o := { dst := none, op := Op.store 31 (Operand.tmp 5) (Operand.tmp 15), type := 0, pos := "l2_words.go:138", after := #[{ on := 10, ground := Ground.data }, { on := 9, ground := Ground.data }, { on := 5, ground := Ground.chain }, { on := 0, ground := Ground.phase }, { on := 1, ground := Ground.phase }, { on := 2, ground := Ground.phase }, { on := 3, ground := Ground.phase }, { on := 4, ground := Ground.phase }, { on := 5, ground := Ground.phase }, { on := 6, ground := Ground.phase }, { on := 7, ground := Ground.phase }, { on := 8, ground := Ground.phase }, { on := 9, ground := Ground.phase }, { on := 10, ground := Ground.phase }], guard := none }) rfl (fun K hK => ?_))
      have c0 : (w9.alloc (.cells #[.int .i64 0, .int .i64 0, .int .i64 0, .slice none 0 0, .int .i64 0, .int .i64 0] 31)).cell? ⟨w9.heap.size, 0, none⟩ = some (.int .i64 0) := G3.cell 0
      have c1 : (w9.alloc (.cells #[.int .i64 0, .int .i64 0, .int .i64 0, .slice none 0 0, .int .i64 0, .int .i64 0] 31)).cell? ⟨w9.heap.size, 1, none⟩ = some (.int .i64 0) := G3.cell 1
      have c2 : (w9.alloc (.cells #[.int .i64 0, .int .i64 0, .int .i64 0, .slice none 0 0, .int .i64 0, .int .i64 0] 31)).cell? ⟨w9.heap.size, 2, none⟩ = some (.int .i64 0) := G3.cell 2
      have c3 : (w9.alloc (.cells #[.int .i64 0, .int .i64 0, .int .i64 0, .slice none 0 0, .int .i64 0, .int .i64 0] 31)).cell? ⟨w9.heap.size, 3, none⟩ = some (.slice none 0 0) := G3.cell 3
      have c4 : (w9.alloc (.cells #[.int .i64 0, .int .i64 0, .int .i64 0, .slice none 0 0, .int .i64 0, .int .i64 0] 31)).cell? ⟨w9.heap.size, 4, none⟩ = some (.int .i64 0) := G3.cell 4
      have c5 : (w9.alloc (.cells #[.int .i64 0, .int .i64 0, .int .i64 0, .slice none 0 0, .int .i64 0, .int .i64 0] 31)).cell? ⟨w9.heap.size, 5, none⟩ = some (.int .i64 0) := G3.cell 5
      have fc0 := G3.frozen 0
      have fc1 := G3.frozen 1
      have fc2 := G3.frozen 2
      have fc3 := G3.frozen 3
      have fc4 := G3.frozen 4
      have fc5 := G3.frozen 5
      have hge : w.heap.size + 2 ≤ w9.heap.size := by first | omega | (have := R2.lt; omega)
      have hrl := R2.lt
      have KW := K2.alloc (.cells #[.int .i64 o, .int .i64 l, .int .i64 m, (.slice A' ps.length c'), .int .i64 b, .int .i64 x] 31)
      have RW := R2.alloc (.cells #[.int .i64 o, .int .i64 l, .int .i64 m, (.slice A' ps.length c'), .int .i64 b, .int .i64 x] 31)
      have GW := Blk.new w9 31 #[.int .i64 o, .int .i64 l, .int .i64 m, (.slice A' ps.length c'), .int .i64 b, .int .i64 x]
      have BW := HK.1.alloc (by omega) (.cells #[.int .i64 o, .int .i64 l, .int .i64 m, (.slice A' ps.length c'), .int .i64 b, .int .i64 x] 31)
      have OW := O2.alloc (.cells #[.int .i64 o, .int .i64 l, .int .i64 m, (.slice A' ps.length c'), .int .i64 b, .int .i64 x] 31)
      go_simp
      clear c0 fc0 c1 fc1 c2 fc2 c3 fc3 c4 fc4 c5 fc5 K3 R3 G3 O3 HK
      refine hK.out _ _ ?_
      clear hK K
      try simp only [Act.put, List.setIfInBounds_toArray, List.set_cons_zero, List.set_cons_succ]
      refine wpAnyF_done (by kernel_rfl) ?_ _
      have a0 : (w9.alloc (.cells #[.int .i64 o, .int .i64 l, .int .i64 m, (.slice A' ps.length c'), .int .i64 b, .int .i64 x] 31)).cell? ⟨w.heap.size, 0, none⟩ = some (.int .i64 o) := KW.cell 0
      have a1 : (w9.alloc (.cells #[.int .i64 o, .int .i64 l, .int .i64 m, (.slice A' ps.length c'), .int .i64 b, .int .i64 x] 31)).cell? ⟨w.heap.size, 1, none⟩ = some (.int .i64 l) := KW.cell 1
      have a2 : (w9.alloc (.cells #[.int .i64 o, .int .i64 l, .int .i64 m, (.slice A' ps.length c'), .int .i64 b, .int .i64 x] 31)).cell? ⟨w.heap.size, 2, none⟩ = some (.int .i64 m) := KW.cell 2
      have a3 : (w9.alloc (.cells #[.int .i64 o, .int .i64 l, .int .i64 m, (.slice A' ps.length c'), .int .i64 b, .int .i64 x] 31)).cell? ⟨w.heap.size, 3, none⟩ = some (.slice A ps.length c) := KW.cell 3
      have a4 : (w9.alloc (.cells #[.int .i64 o, .int .i64 l, .int .i64 m, (.slice A' ps.length c'), .int .i64 b, .int .i64 x] 31)).cell? ⟨w.heap.size, 4, none⟩ = some (.int .i64 b) := KW.cell 4
      have a5 : (w9.alloc (.cells #[.int .i64 o, .int .i64 l, .int .i64 m, (.slice A' ps.length c'), .int .i64 b, .int .i64 x] 31)).cell? ⟨w.heap.size, 5, none⟩ = some (.int .i64 t) := KW.cell 5
      go_wp2_with fail
      refine ((unhide CG) _).mono ?_; rintro e w8 ⟨rfl, hb8⟩
      have R8 := RW.below hb8 RW.lt
      have G8 := GW.below hb8 GW.lt
      have O8 := own_below OW hb8
      have B8 := below_next (Nat.le_refl _) BW hb8
      clear RW KW GW OW BW hb8 a0 a1 a2 a3 a4 a5
      have g0 : w8.cell? ⟨w9.heap.size, 0, none⟩ = some (.int .i64 o) := G8.cell 0
      have g1 : w8.cell? ⟨w9.heap.size, 1, none⟩ = some (.int .i64 l) := G8.cell 1
      have g2 : w8.cell? ⟨w9.heap.size, 2, none⟩ = some (.int .i64 m) := G8.cell 2
      have g3 : w8.cell? ⟨w9.heap.size, 3, none⟩ = some ((.slice A' ps.length c')) := G8.cell 3
      have g4 : w8.cell? ⟨w9.heap.size, 4, none⟩ = some (.int .i64 b) := G8.cell 4
      have g5 : w8.cell? ⟨w9.heap.size, 5, none⟩ = some (.int .i64 x) := G8.cell 5
      have r0 : w8.cell? ⟨(w.heap.size + 1), 0, none⟩ = some (.int .i64 0) := R8.cell 0
      have r1 : w8.cell? ⟨(w.heap.size + 1), 1, none⟩ = some (.int .i64 0) := R8.cell 1
      have r2 : w8.cell? ⟨(w.heap.size + 1), 2, none⟩ = some (.int .i64 0) := R8.cell 2
      have r3 : w8.cell? ⟨(w.heap.size + 1), 3, none⟩ = some (.slice none 0 0) := R8.cell 3
      have r4 : w8.cell? ⟨(w.heap.size + 1), 4, none⟩ = some (.int .i64 0) := R8.cell 4
      have r5 : w8.cell? ⟨(w.heap.size + 1), 5, none⟩ = some (.int .i64 0) := R8.cell 5
      have fr0 := R8.frozen 0
      have fr1 := R8.frozen 1
      have fr2 := R8.frozen 2
      have fr3 := R8.frozen 3
      have fr4 := R8.frozen 4
      have fr5 := R8.frozen 5
      go_wp2_with fail
      have q := blk6_set R8 (.int .i64 o) (.int .i64 l) (.int .i64 m) (.slice A' ps.length c') (.int .i64 b) (.int .i64 x)
      have OV := O8.kept (only6 _ (w.heap.size + 1) (.int .i64 o) (.int .i64 l) (.int .i64 m) (.slice A' ps.length c') (.int .i64 b) (.int .i64 x)) (.inr (own_blk_ne O8 R8 (by decide)))
      have BV := below_set6 (g := w.heap.size + 1) B8 (by omega) (.int .i64 o) (.int .i64 l) (.int .i64 m) (.slice A' ps.length c') (.int .i64 b) (.int .i64 x)
      have q0 := q.cell 0
      have q1 := q.cell 1
      have q2 := q.cell 2
      have q3 := q.cell 3
      have q4 := q.cell 4
      have q5 := q.cell 5
      exact bodyPost_ret (v := kv o l m A' ps.length c' b x) (by simp [results, Try.results101, go_sem, q0, q1, q2, q3, q4, q5]) rfl ⟨A', c', by rw [HP.out.1], by rw [HP.out.1]; exact OwnP.of_own rfl (own_base OV (by omega)), by rw [HP.out.1]; exact own_cap OV, BV⟩
    · skip
      go_simp
      have hrl1 := R1.lt
      have R2 := R1.alloc (.cells #[.int .i64 0, .int .i64 0, .int .i64 0, .slice none 0 0, .int .i64 0, .int .i64 0] 31)
      have K2 := K1.alloc (.cells #[.int .i64 0, .int .i64 0, .int .i64 0, .slice none 0 0, .int .i64 0, .int .i64 0] 31)
      have G2 := blk_newN (((w.alloc (.cells #[.int .i64 o, .int .i64 l, .int .i64 m, .slice A ps.length c, .int .i64 b, .int .i64 t] 31)).alloc (.cells #[.int .i64 0, .int .i64 0, .int .i64 0, .slice none 0 0, .int .i64 0, .int .i64 0] 31)).drew.alloc (.cells #[] 63)) 31 #[.int .i64 0, .int .i64 0, .int .i64 0, .slice none 0 0, .int .i64 0, .int .i64 0] (w.heap.size + 3) (by first | rfl | (simp; done))
      have P2 := P1.alloc (by first | omega | (simp; done) | (simp; omega)) (.cells #[.int .i64 0, .int .i64 0, .int .i64 0, .slice none 0 0, .int .i64 0, .int .i64 0] 31)
      have O2 := O1.alloc (.cells #[.int .i64 0, .int .i64 0, .int .i64 0, .slice none 0 0, .int .i64 0, .int .i64 0] 31)
      refine hK.out _ _ (by (try dsimp only); first | exact keep6 ((Below.refl _ _).alloc (Nat.le_refl _) _) (by assumption)) (fun hHeld => ?_)
      clear hK K
      try simp only [Act.put, List.setIfInBounds_toArray, List.set_cons_zero, List.set_cons_succ]
      refine wpAnyF_ready (rs := [5]) (by kernel_rfl) (by simp) (AllReadyF.cons (i := 5) (o := { dst := some 11, op := Op.call { callee := Callee.builtin Builtin.append, args := #[Operand.tmp 8, Operand.tmp 10], argTypes := #[29, 29] }, type := 29, pos := "l2_words.go:138", after := #[{ on := 2, ground := Ground.data }, { on := 4, ground := Ground.data }], guard := none }) rfl (fun K hK => ?_) AllReadyF.nil)
      refine wp_append_any _ _ _ _ rfl (w.heap.size + 2) 63 i0 (.agg #[.int .i64 0, .int .i64 0]) 2 16 Try.underlying29 hi0 hz0 hz1 hz2 (by rfl) (by decide) (.slice (some ⟨w.heap.size + 2, 0, none⟩) 0 0) 0 [] (by first | rfl | simp [Act.eval]) O2 _ A ps.length c (pvals ps) (by first | rfl | simp [Act.eval]) P2 (pvals_one _) (by simp only [maxLen]; omega) (by omega) (by first | omega | (simp; done) | (simp; omega)) ?_
      intro v' w9 hown9 hgrow hsh
      rw [Nat.zero_add, List.nil_append] at hown9
      obtain ⟨A', c', rfl⟩ := own_shapeN hown9
      have hl9 := hown9.lt
      have R3 := R2.grown hgrow (by simp [Value.ownBlock])
      have K3 := K2.grown hgrow (by simp [Value.ownBlock]; try omega)
      have G3 := G2.grown hgrow (by simp [Value.ownBlock])
      have O3 := hown9
      have HK := keepG6' hHeld hgrow (by simp [Value.ownBlock]; try omega) (by simp [Value.ownBlock]; try omega)
      clear hgrow hsh hHeld
      refine hK.out _ _ (by (try dsimp only); first | exact HK) (fun hHeld => ?_)
      clear hK K
      try simp only [Act.put, List.setIfInBounds_toArray, List.set_cons_zero, List.set_cons_succ]
      refine wpAnyF_take (i := 9) (oi := { dst := some 15, op := Op.build 31 #[(0, Operand.tmp 7), (1, Operand.tmp 11), (2, Operand.tmp 13), (3, Operand.tmp 14)], type := 31, pos := "l2_words.go:138", after := #[{ on := 1, ground := Ground.data }, { on := 5, ground := Ground.data }, { on := 7, ground := Ground.data }, { on := 8, ground := Ground.data }], guard := none }) (v := ?_) rfl (by kernel_rfl) (by kernel_rfl) (by kernel_rfl) (by kernel_rfl) (fun _ _ _ h => h) (Or.inl ⟨by rfl, ?_⟩) (by assumption) ?_; rotate_left
      · intro W hW; (try dsimp only at hW); go_simp;  try (with_reducible rfl)
      try simp only [Act.put, List.setIfInBounds_toArray, List.set_cons_zero, List.set_cons_succ]
      refine wpAnyF_ready (rs := [11]) (by kernel_rfl) (by simp) (AllReadyF.last (o := { dst := none, op := Op.store 31 (Operand.tmp 5) (Operand.tmp 15), type := 0, pos := "l2_words.go:138", after := #[{ on := 10, ground := Ground.data }, { on := 9, ground := Ground.data }, { on := 5, ground := Ground.chain }, { on := 0, ground := Ground.phase }, { on := 1, ground := Ground.phase }, { on := 2, ground := Ground.phase }, { on := 3, ground := Ground.phase }, { on := 4, ground := Ground.phase }, { on := 5, ground := Ground.phase }, { on := 6, ground := Ground.phase }, { on := 7, ground := Ground.phase }, { on := 8, ground := Ground.phase }, { on := 9, ground := Ground.phase }, { on := 10, ground := Ground.phase }], guard := none }) rfl (fun K hK => ?_))
      have c0 : w9.cell? ⟨(w.heap.size + 3), 0, none⟩ = some (.int .i64 0) := G3.cell 0
      have c1 : w9.cell? ⟨(w.heap.size + 3), 1, none⟩ = some (.int .i64 0) := G3.cell 1
      have c2 : w9.cell? ⟨(w.heap.size + 3), 2, none⟩ = some (.int .i64 0) := G3.cell 2
      have c3 : w9.cell? ⟨(w.heap.size + 3), 3, none⟩ = some (.slice none 0 0) := G3.cell 3
      have c4 : w9.cell? ⟨(w.heap.size + 3), 4, none⟩ = some (.int .i64 0) := G3.cell 4
      have c5 : w9.cell? ⟨(w.heap.size + 3), 5, none⟩ = some (.int .i64 0) := G3.cell 5
      have fc0 := G3.frozen 0
      have fc1 := G3.frozen 1
      have fc2 := G3.frozen 2
      have fc3 := G3.frozen 3
      have fc4 := G3.frozen 4
      have fc5 := G3.frozen 5
      have hge : w.heap.size + 2 ≤ (w.heap.size + 3) := by first | omega | (have := R3.lt; omega)
      have hrl := R3.lt
      have KW := K3.far6 (g := (w.heap.size + 3)) (by omega) (.int .i64 o) (.int .i64 l) (.int .i64 m) (.slice A' ps.length c') (.int .i64 b) (.int .i64 x)
      have RW := R3.far6 (g := (w.heap.size + 3)) (by omega) (.int .i64 o) (.int .i64 l) (.int .i64 m) (.slice A' ps.length c') (.int .i64 b) (.int .i64 x)
      have GW := blk6_set G3 (.int .i64 o) (.int .i64 l) (.int .i64 m) (.slice A' ps.length c') (.int .i64 b) (.int .i64 x)
      have BW := below_set6 (g := (w.heap.size + 3)) hHeld.1 (by omega) (.int .i64 o) (.int .i64 l) (.int .i64 m) (.slice A' ps.length c') (.int .i64 b) (.int .i64 x)
      have OW := O3.kept (only6 w9 (w.heap.size + 3) (.int .i64 o) (.int .i64 l) (.int .i64 m) (.slice A' ps.length c') (.int .i64 b) (.int .i64 x)) (.inr (own_blk_ne O3 G3 (by decide)))
      go_simp
      clear c0 fc0 c1 fc1 c2 fc2 c3 fc3 c4 fc4 c5 fc5 K3 R3 G3 O3
      refine hK.out _ _ ?_
      clear hK K
      try simp only [Act.put, List.setIfInBounds_toArray, List.set_cons_zero, List.set_cons_succ]
      refine wpAnyF_done (by kernel_rfl) ?_ _
      have a0 : ((((((w9.setCell ⟨w.heap.size + 3, 0, none⟩ (.int .i64 o)).setCell ⟨w.heap.size + 3, 1, none⟩ (.int .i64 l)).setCell ⟨w.heap.size + 3, 2, none⟩ (.int .i64 m)).setCell ⟨w.heap.size + 3, 3, none⟩ (.slice A' ps.length c')).setCell ⟨w.heap.size + 3, 4, none⟩ (.int .i64 b)).setCell ⟨w.heap.size + 3, 5, none⟩ (.int .i64 x)).cell? ⟨w.heap.size, 0, none⟩ = some (.int .i64 o) := KW.cell 0
      have a1 : ((((((w9.setCell ⟨w.heap.size + 3, 0, none⟩ (.int .i64 o)).setCell ⟨w.heap.size + 3, 1, none⟩ (.int .i64 l)).setCell ⟨w.heap.size + 3, 2, none⟩ (.int .i64 m)).setCell ⟨w.heap.size + 3, 3, none⟩ (.slice A' ps.length c')).setCell ⟨w.heap.size + 3, 4, none⟩ (.int .i64 b)).setCell ⟨w.heap.size + 3, 5, none⟩ (.int .i64 x)).cell? ⟨w.heap.size, 1, none⟩ = some (.int .i64 l) := KW.cell 1
      have a2 : ((((((w9.setCell ⟨w.heap.size + 3, 0, none⟩ (.int .i64 o)).setCell ⟨w.heap.size + 3, 1, none⟩ (.int .i64 l)).setCell ⟨w.heap.size + 3, 2, none⟩ (.int .i64 m)).setCell ⟨w.heap.size + 3, 3, none⟩ (.slice A' ps.length c')).setCell ⟨w.heap.size + 3, 4, none⟩ (.int .i64 b)).setCell ⟨w.heap.size + 3, 5, none⟩ (.int .i64 x)).cell? ⟨w.heap.size, 2, none⟩ = some (.int .i64 m) := KW.cell 2
      have a3 : ((((((w9.setCell ⟨w.heap.size + 3, 0, none⟩ (.int .i64 o)).setCell ⟨w.heap.size + 3, 1, none⟩ (.int .i64 l)).setCell ⟨w.heap.size + 3, 2, none⟩ (.int .i64 m)).setCell ⟨w.heap.size + 3, 3, none⟩ (.slice A' ps.length c')).setCell ⟨w.heap.size + 3, 4, none⟩ (.int .i64 b)).setCell ⟨w.heap.size + 3, 5, none⟩ (.int .i64 x)).cell? ⟨w.heap.size, 3, none⟩ = some (.slice A ps.length c) := KW.cell 3
      have a4 : ((((((w9.setCell ⟨w.heap.size + 3, 0, none⟩ (.int .i64 o)).setCell ⟨w.heap.size + 3, 1, none⟩ (.int .i64 l)).setCell ⟨w.heap.size + 3, 2, none⟩ (.int .i64 m)).setCell ⟨w.heap.size + 3, 3, none⟩ (.slice A' ps.length c')).setCell ⟨w.heap.size + 3, 4, none⟩ (.int .i64 b)).setCell ⟨w.heap.size + 3, 5, none⟩ (.int .i64 x)).cell? ⟨w.heap.size, 4, none⟩ = some (.int .i64 b) := KW.cell 4
      have a5 : ((((((w9.setCell ⟨w.heap.size + 3, 0, none⟩ (.int .i64 o)).setCell ⟨w.heap.size + 3, 1, none⟩ (.int .i64 l)).setCell ⟨w.heap.size + 3, 2, none⟩ (.int .i64 m)).setCell ⟨w.heap.size + 3, 3, none⟩ (.slice A' ps.length c')).setCell ⟨w.heap.size + 3, 4, none⟩ (.int .i64 b)).setCell ⟨w.heap.size + 3, 5, none⟩ (.int .i64 x)).cell? ⟨w.heap.size, 5, none⟩ = some (.int .i64 t) := KW.cell 5
      go_wp2_with fail
      refine ((unhide CG) _).mono ?_; rintro e w8 ⟨rfl, hb8⟩
      have R8 := RW.below hb8 RW.lt
      have G8 := GW.below hb8 GW.lt
      have O8 := own_below OW hb8
      have B8 := below_next (Nat.le_refl _) BW hb8
      clear RW KW GW OW BW hb8 a0 a1 a2 a3 a4 a5
      have g0 : w8.cell? ⟨w.heap.size + 3, 0, none⟩ = some (.int .i64 o) := G8.cell 0
      have g1 : w8.cell? ⟨w.heap.size + 3, 1, none⟩ = some (.int .i64 l) := G8.cell 1
      have g2 : w8.cell? ⟨w.heap.size + 3, 2, none⟩ = some (.int .i64 m) := G8.cell 2
      have g3 : w8.cell? ⟨w.heap.size + 3, 3, none⟩ = some ((.slice A' ps.length c')) := G8.cell 3
      have g4 : w8.cell? ⟨w.heap.size + 3, 4, none⟩ = some (.int .i64 b) := G8.cell 4
      have g5 : w8.cell? ⟨w.heap.size + 3, 5, none⟩ = some (.int .i64 x) := G8.cell 5
      have r0 : w8.cell? ⟨(w.heap.size + 1), 0, none⟩ = some (.int .i64 0) := R8.cell 0
      have r1 : w8.cell? ⟨(w.heap.size + 1), 1, none⟩ = some (.int .i64 0) := R8.cell 1
      have r2 : w8.cell? ⟨(w.heap.size + 1), 2, none⟩ = some (.int .i64 0) := R8.cell 2
      have r3 : w8.cell? ⟨(w.heap.size + 1), 3, none⟩ = some (.slice none 0 0) := R8.cell 3
      have r4 : w8.cell? ⟨(w.heap.size + 1), 4, none⟩ = some (.int .i64 0) := R8.cell 4
      have r5 : w8.cell? ⟨(w.heap.size + 1), 5, none⟩ = some (.int .i64 0) := R8.cell 5
      have fr0 := R8.frozen 0
      have fr1 := R8.frozen 1
      have fr2 := R8.frozen 2
      have fr3 := R8.frozen 3
      have fr4 := R8.frozen 4
      have fr5 := R8.frozen 5
      go_wp2_with fail
      have q := blk6_set R8 (.int .i64 o) (.int .i64 l) (.int .i64 m) (.slice A' ps.length c') (.int .i64 b) (.int .i64 x)
      have OV := O8.kept (only6 _ (w.heap.size + 1) (.int .i64 o) (.int .i64 l) (.int .i64 m) (.slice A' ps.length c') (.int .i64 b) (.int .i64 x)) (.inr (own_blk_ne O8 R8 (by decide)))
      have BV := below_set6 (g := w.heap.size + 1) B8 (by omega) (.int .i64 o) (.int .i64 l) (.int .i64 m) (.slice A' ps.length c') (.int .i64 b) (.int .i64 x)
      have q0 := q.cell 0
      have q1 := q.cell 1
      have q2 := q.cell 2
      have q3 := q.cell 3
      have q4 := q.cell 4
      have q5 := q.cell 5
      exact bodyPost_ret (v := kv o l m A' ps.length c' b x) (by simp [results, Try.results101, go_sem, q0, q1, q2, q3, q4, q5]) rfl ⟨A', c', by rw [HP.out.1], by rw [HP.out.1]; exact OwnP.of_own rfl (own_base OV (by omega)), by rw [HP.out.1]; exact own_cap OV, BV⟩
  · skip
    go_simp
    have hrl0 := R0.lt
    have R1 := R0.alloc (.cells #[.int .i64 0, .int .i64 0, .int .i64 0, .slice none 0 0, .int .i64 0, .int .i64 0] 31)
    have K1 := K0.alloc (.cells #[.int .i64 0, .int .i64 0, .int .i64 0, .slice none 0 0, .int .i64 0, .int .i64 0] 31)
    have G1 := blk_newN ((w.alloc (.cells #[.int .i64 o, .int .i64 l, .int .i64 m, .slice A ps.length c, .int .i64 b, .int .i64 t] 31)).alloc (.cells #[.int .i64 0, .int .i64 0, .int .i64 0, .slice none 0 0, .int .i64 0, .int .i64 0] 31)).drew 31 #[.int .i64 0, .int .i64 0, .int .i64 0, .slice none 0 0, .int .i64 0, .int .i64 0] (w.heap.size + 2) (by first | rfl | (simp; done))
    have P1 := P0.alloc (by first | omega | (simp; done) | (simp; omega)) (.cells #[.int .i64 0, .int .i64 0, .int .i64 0, .slice none 0 0, .int .i64 0, .int .i64 0] 31)
    refine hK.out _ _ (by (try dsimp only); first | exact keep6 ((Below.refl _ _).alloc (Nat.le_refl _) _) (by assumption)) (fun hHeld => ?_)
    clear hK K
    try simp only [Act.put, List.setIfInBounds_toArray, List.set_cons_zero, List.set_cons_succ]
    refine wpAnyF_ready (rs := [2]) (by kernel_rfl) (by simp) (AllReadyF.cons (i := 2) (o := { dst := some 8, op := Op.buildSlice 29 0 #[], type := 29, pos := "l2_words.go:138", after := #[], guard := none }) rfl (fun K hK => ?_) AllReadyF.nil)
    go_simp
    have R2 := R1.alloc (.cells #[] 63)
    have K2 := K1.alloc (.cells #[] 63)
    have G2 := G1.alloc (.cells #[] 63)
    have O2 := own_base (own_emptyP (((w.alloc (.cells #[.int .i64 o, .int .i64 l, .int .i64 m, .slice A ps.length c, .int .i64 b, .int .i64 t] 31)).alloc (.cells #[.int .i64 0, .int .i64 0, .int .i64 0, .slice none 0 0, .int .i64 0, .int .i64 0] 31)).drew.alloc (.cells #[.int .i64 0, .int .i64 0, .int .i64 0, .slice none 0 0, .int .i64 0, .int .i64 0] 31)) 63 2 (w.heap.size + 3) (by first | rfl | (simp; done))) (by omega : w.heap.size + 2 ≤ (w.heap.size + 3))
    have P2 := P1.alloc (by first | omega | (simp; done) | (simp; omega)) (.cells #[] 63)
    refine hK.out _ _ (by (try dsimp only); first | exact keep6 ((Below.refl _ _).alloc (Nat.le_refl _) _) (by assumption)) (fun hHeld => ?_)
    clear hK K
    try simp only [Act.put, List.setIfInBounds_toArray, List.set_cons_zero, List.set_cons_succ]
    refine wpAnyF_ready (rs := [5]) (by kernel_rfl) (by simp) (AllReadyF.cons (i := 5) (o := { dst := some 11, op := Op.call { callee := Callee.builtin Builtin.append, args := #[Operand.tmp 8, Operand.tmp 10], argTypes := #[29, 29] }, type := 29, pos := "l2_words.go:138", after := #[{ on := 2, ground := Ground.data }, { on := 4, ground := Ground.data }], guard := none }) rfl (fun K hK => ?_) AllReadyF.nil)
    refine wp_append_any _ _ _ _ rfl (w.heap.size + 2) 63 i0 (.agg #[.int .i64 0, .int .i64 0]) 2 16 Try.underlying29 hi0 hz0 hz1 hz2 (by rfl) (by decide) (.slice (some ⟨w.heap.size + 3, 0, none⟩) 0 0) 0 [] (by first | rfl | simp [Act.eval]) O2 _ A ps.length c (pvals ps) (by first | rfl | simp [Act.eval]) P2 (pvals_one _) (by simp only [maxLen]; omega) (by omega) (by first | omega | (simp; done) | (simp; omega)) ?_
    intro v' w9 hown9 hgrow hsh
    rw [Nat.zero_add, List.nil_append] at hown9
    obtain ⟨A', c', rfl⟩ := own_shapeN hown9
    have hl9 := hown9.lt
    have R3 := R2.grown hgrow (by simp [Value.ownBlock])
    have K3 := K2.grown hgrow (by simp [Value.ownBlock]; try omega)
    have G3 := G2.grown hgrow (by simp [Value.ownBlock])
    have O3 := hown9
    have HK := keepG6' hHeld hgrow (by simp [Value.ownBlock]; try omega) (by simp [Value.ownBlock]; try omega)
    clear hgrow hsh hHeld
    refine hK.out _ _ (by (try dsimp only); first | exact HK) (fun hHeld => ?_)
    clear hK K
    try simp only [Act.put, List.setIfInBounds_toArray, List.set_cons_zero, List.set_cons_succ]
    refine wpAnyF_take (i := 9) (oi := { dst := some 15, op := Op.build 31 #[(0, Operand.tmp 7), (1, Operand.tmp 11), (2, Operand.tmp 13), (3, Operand.tmp 14)], type := 31, pos := "l2_words.go:138", after := #[{ on := 1, ground := Ground.data }, { on := 5, ground := Ground.data }, { on := 7, ground := Ground.data }, { on := 8, ground := Ground.data }], guard := none }) (v := ?_) rfl (by kernel_rfl) (by kernel_rfl) (by kernel_rfl) (by kernel_rfl) (fun _ _ _ h => h) (Or.inl ⟨by rfl, ?_⟩) (by assumption) ?_; rotate_left
    · intro W hW; (try dsimp only at hW); go_simp;  try (with_reducible rfl)
    try simp only [Act.put, List.setIfInBounds_toArray, List.set_cons_zero, List.set_cons_succ]
    refine wpAnyF_ready (rs := [11]) (by kernel_rfl) (by simp) (AllReadyF.last (o := { dst := none, op := Op.store 31 (Operand.tmp 5) (Operand.tmp 15), type := 0, pos := "l2_words.go:138", after := #[{ on := 10, ground := Ground.data }, { on := 9, ground := Ground.data }, { on := 5, ground := Ground.chain }, { on := 0, ground := Ground.phase }, { on := 1, ground := Ground.phase }, { on := 2, ground := Ground.phase }, { on := 3, ground := Ground.phase }, { on := 4, ground := Ground.phase }, { on := 5, ground := Ground.phase }, { on := 6, ground := Ground.phase }, { on := 7, ground := Ground.phase }, { on := 8, ground := Ground.phase }, { on := 9, ground := Ground.phase }, { on := 10, ground := Ground.phase }], guard := none }) rfl (fun K hK => ?_))
    have c0 : w9.cell? ⟨(w.heap.size + 2), 0, none⟩ = some (.int .i64 0) := G3.cell 0
    have c1 : w9.cell? ⟨(w.heap.size + 2), 1, none⟩ = some (.int .i64 0) := G3.cell 1
    have c2 : w9.cell? ⟨(w.heap.size + 2), 2, none⟩ = some (.int .i64 0) := G3.cell 2
    have c3 : w9.cell? ⟨(w.heap.size + 2), 3, none⟩ = some (.slice none 0 0) := G3.cell 3
    have c4 : w9.cell? ⟨(w.heap.size + 2), 4, none⟩ = some (.int .i64 0) := G3.cell 4
    have c5 : w9.cell? ⟨(w.heap.size + 2), 5, none⟩ = some (.int .i64 0) := G3.cell 5
    have fc0 := G3.frozen 0
    have fc1 := G3.frozen 1
    have fc2 := G3.frozen 2
    have fc3 := G3.frozen 3
    have fc4 := G3.frozen 4
    have fc5 := G3.frozen 5
    have hge : w.heap.size + 2 ≤ (w.heap.size + 2) := by first | omega | (have := R3.lt; omega)
    have hrl := R3.lt
    have KW := K3.far6 (g := (w.heap.size + 2)) (by omega) (.int .i64 o) (.int .i64 l) (.int .i64 m) (.slice A' ps.length c') (.int .i64 b) (.int .i64 x)
    have RW := R3.far6 (g := (w.heap.size + 2)) (by omega) (.int .i64 o) (.int .i64 l) (.int .i64 m) (.slice A' ps.length c') (.int .i64 b) (.int .i64 x)
    have GW := blk6_set G3 (.int .i64 o) (.int .i64 l) (.int .i64 m) (.slice A' ps.length c') (.int .i64 b) (.int .i64 x)
    have BW := below_set6 (g := (w.heap.size + 2)) hHeld.1 (by omega) (.int .i64 o) (.int .i64 l) (.int .i64 m) (.slice A' ps.length c') (.int .i64 b) (.int .i64 x)
    have OW := O3.kept (only6 w9 (w.heap.size + 2) (.int .i64 o) (.int .i64 l) (.int .i64 m) (.slice A' ps.length c') (.int .i64 b) (.int .i64 x)) (.inr (own_blk_ne O3 G3 (by decide)))
    go_simp
    clear c0 fc0 c1 fc1 c2 fc2 c3 fc3 c4 fc4 c5 fc5 K3 R3 G3 O3
    refine hK.out _ _ ?_
    clear hK K
    try simp only [Act.put, List.setIfInBounds_toArray, List.set_cons_zero, List.set_cons_succ]
    refine wpAnyF_done (by kernel_rfl) ?_ _
    have a0 : ((((((w9.setCell ⟨w.heap.size + 2, 0, none⟩ (.int .i64 o)).setCell ⟨w.heap.size + 2, 1, none⟩ (.int .i64 l)).setCell ⟨w.heap.size + 2, 2, none⟩ (.int .i64 m)).setCell ⟨w.heap.size + 2, 3, none⟩ (.slice A' ps.length c')).setCell ⟨w.heap.size + 2, 4, none⟩ (.int .i64 b)).setCell ⟨w.heap.size + 2, 5, none⟩ (.int .i64 x)).cell? ⟨w.heap.size, 0, none⟩ = some (.int .i64 o) := KW.cell 0
    have a1 : ((((((w9.setCell ⟨w.heap.size + 2, 0, none⟩ (.int .i64 o)).setCell ⟨w.heap.size + 2, 1, none⟩ (.int .i64 l)).setCell ⟨w.heap.size + 2, 2, none⟩ (.int .i64 m)).setCell ⟨w.heap.size + 2, 3, none⟩ (.slice A' ps.length c')).setCell ⟨w.heap.size + 2, 4, none⟩ (.int .i64 b)).setCell ⟨w.heap.size + 2, 5, none⟩ (.int .i64 x)).cell? ⟨w.heap.size, 1, none⟩ = some (.int .i64 l) := KW.cell 1
    have a2 : ((((((w9.setCell ⟨w.heap.size + 2, 0, none⟩ (.int .i64 o)).setCell ⟨w.heap.size + 2, 1, none⟩ (.int .i64 l)).setCell ⟨w.heap.size + 2, 2, none⟩ (.int .i64 m)).setCell ⟨w.heap.size + 2, 3, none⟩ (.slice A' ps.length c')).setCell ⟨w.heap.size + 2, 4, none⟩ (.int .i64 b)).setCell ⟨w.heap.size + 2, 5, none⟩ (.int .i64 x)).cell? ⟨w.heap.size, 2, none⟩ = some (.int .i64 m) := KW.cell 2
    have a3 : ((((((w9.setCell ⟨w.heap.size + 2, 0, none⟩ (.int .i64 o)).setCell ⟨w.heap.size + 2, 1, none⟩ (.int .i64 l)).setCell ⟨w.heap.size + 2, 2, none⟩ (.int .i64 m)).setCell ⟨w.heap.size + 2, 3, none⟩ (.slice A' ps.length c')).setCell ⟨w.heap.size + 2, 4, none⟩ (.int .i64 b)).setCell ⟨w.heap.size + 2, 5, none⟩ (.int .i64 x)).cell? ⟨w.heap.size, 3, none⟩ = some (.slice A ps.length c) := KW.cell 3
    have a4 : ((((((w9.setCell ⟨w.heap.size + 2, 0, none⟩ (.int .i64 o)).setCell ⟨w.heap.size + 2, 1, none⟩ (.int .i64 l)).setCell ⟨w.heap.size + 2, 2, none⟩ (.int .i64 m)).setCell ⟨w.heap.size + 2, 3, none⟩ (.slice A' ps.length c')).setCell ⟨w.heap.size + 2, 4, none⟩ (.int .i64 b)).setCell ⟨w.heap.size + 2, 5, none⟩ (.int .i64 x)).cell? ⟨w.heap.size, 4, none⟩ = some (.int .i64 b) := KW.cell 4
    have a5 : ((((((w9.setCell ⟨w.heap.size + 2, 0, none⟩ (.int .i64 o)).setCell ⟨w.heap.size + 2, 1, none⟩ (.int .i64 l)).setCell ⟨w.heap.size + 2, 2, none⟩ (.int .i64 m)).setCell ⟨w.heap.size + 2, 3, none⟩ (.slice A' ps.length c')).setCell ⟨w.heap.size + 2, 4, none⟩ (.int .i64 b)).setCell ⟨w.heap.size + 2, 5, none⟩ (.int .i64 x)).cell? ⟨w.heap.size, 5, none⟩ = some (.int .i64 t) := KW.cell 5
    go_wp2_with fail
    refine ((unhide CG) _).mono ?_; rintro e w8 ⟨rfl, hb8⟩
    have R8 := RW.below hb8 RW.lt
    have G8 := GW.below hb8 GW.lt
    have O8 := own_below OW hb8
    have B8 := below_next (Nat.le_refl _) BW hb8
    clear RW KW GW OW BW hb8 a0 a1 a2 a3 a4 a5
    have g0 : w8.cell? ⟨w.heap.size + 2, 0, none⟩ = some (.int .i64 o) := G8.cell 0
    have g1 : w8.cell? ⟨w.heap.size + 2, 1, none⟩ = some (.int .i64 l) := G8.cell 1
    have g2 : w8.cell? ⟨w.heap.size + 2, 2, none⟩ = some (.int .i64 m) := G8.cell 2
    have g3 : w8.cell? ⟨w.heap.size + 2, 3, none⟩ = some ((.slice A' ps.length c')) := G8.cell 3
    have g4 : w8.cell? ⟨w.heap.size + 2, 4, none⟩ = some (.int .i64 b) := G8.cell 4
    have g5 : w8.cell? ⟨w.heap.size + 2, 5, none⟩ = some (.int .i64 x) := G8.cell 5
    have r0 : w8.cell? ⟨(w.heap.size + 1), 0, none⟩ = some (.int .i64 0) := R8.cell 0
    have r1 : w8.cell? ⟨(w.heap.size + 1), 1, none⟩ = some (.int .i64 0) := R8.cell 1
    have r2 : w8.cell? ⟨(w.heap.size + 1), 2, none⟩ = some (.int .i64 0) := R8.cell 2
    have r3 : w8.cell? ⟨(w.heap.size + 1), 3, none⟩ = some (.slice none 0 0) := R8.cell 3
    have r4 : w8.cell? ⟨(w.heap.size + 1), 4, none⟩ = some (.int .i64 0) := R8.cell 4
    have r5 : w8.cell? ⟨(w.heap.size + 1), 5, none⟩ = some (.int .i64 0) := R8.cell 5
    have fr0 := R8.frozen 0
    have fr1 := R8.frozen 1
    have fr2 := R8.frozen 2
    have fr3 := R8.frozen 3
    have fr4 := R8.frozen 4
    have fr5 := R8.frozen 5
    go_wp2_with fail
    have q := blk6_set R8 (.int .i64 o) (.int .i64 l) (.int .i64 m) (.slice A' ps.length c') (.int .i64 b) (.int .i64 x)
    have OV := O8.kept (only6 _ (w.heap.size + 1) (.int .i64 o) (.int .i64 l) (.int .i64 m) (.slice A' ps.length c') (.int .i64 b) (.int .i64 x)) (.inr (own_blk_ne O8 R8 (by decide)))
    have BV := below_set6 (g := w.heap.size + 1) B8 (by omega) (.int .i64 o) (.int .i64 l) (.int .i64 m) (.slice A' ps.length c') (.int .i64 b) (.int .i64 x)
    have q0 := q.cell 0
    have q1 := q.cell 1
    have q2 := q.cell 2
    have q3 := q.cell 3
    have q4 := q.cell 4
    have q5 := q.cell 5
    exact bodyPost_ret (v := kv o l m A' ps.length c' b x) (by simp [results, Try.results101, go_sem, q0, q1, q2, q3, q4, q5]) rfl ⟨A', c', by rw [HP.out.1], by rw [HP.out.1]; exact OwnP.of_own rfl (own_base OV (by omega)), by rw [HP.out.1]; exact own_cap OV, BV⟩
set_option maxRecDepth 100000 in
set_option maxHeartbeats 2000000 in
theorem after_growS (o l m : Int) (A : Option Addr) (c : Nat) (b t x : Int) (ps : List (Int × Int)) (w : World) (hr : PR w w.heap.size A ps) (hk : Sx.kOK o l m ps b t = true) (hc : Sx.canB l m ps.length t x = true) (hg : Sx.growsB l m ps.length t = true) :
    Calls Try.prog 101 #[kv o l m A ps.length c b t, .int .i64 x] w fun e w' => ∃ A' c', e = .returned (kv o l m A' (Sx.stepP l m ps b t x).length c' b x) ∧ OwnP w' w.heap.size A' (Sx.stepP l m ps b t x) ∧ (Sx.stepP l m ps b t x).length ≤ c' ∧ Below w.heap.size w w' := by
  have hx : x ≠ Sx.two l := by
    rintro rfl
    rw [Sx.can_mk] at hc; simp at hc
  obtain ⟨i0, hi0, hz0, hz1, hz2⟩ := info_parts try_infoP
  obtain ⟨hl0, hl1, hm0, hm1, hn1, ht1⟩ := Sx.kOK_nums hk
  have h3 := (Sx.kOK_of hk).2.2.2.1
  have B0 : Below w.heap.size w ((w.alloc (.cells #[.int .i64 o, .int .i64 l, .int .i64 m, .slice A ps.length c, .int .i64 b, .int .i64 t] 31)).alloc (.cells #[.int .i64 0, .int .i64 0, .int .i64 0, .slice none 0 0, .int .i64 0, .int .i64 0] 31)) := ((Below.refl _ _).alloc (Nat.le_refl _) _).alloc (by simp) _
  have K0 := ((Blk.new w 31 #[.int .i64 o, .int .i64 l, .int .i64 m, .slice A ps.length c, .int .i64 b, .int .i64 t]).alloc (.cells #[.int .i64 0, .int .i64 0, .int .i64 0, .slice none 0 0, .int .i64 0, .int .i64 0] 31)).drew
  have R0 := (blk_new2 w (.cells #[.int .i64 o, .int .i64 l, .int .i64 m, .slice A ps.length c, .int .i64 b, .int .i64 t] 31) 31 #[.int .i64 0, .int .i64 0, .int .i64 0, .slice none 0 0, .int .i64 0, .int .i64 0]).drew
  have P0 : Reads ((w.alloc (.cells #[.int .i64 o, .int .i64 l, .int .i64 m, .slice A ps.length c, .int .i64 b, .int .i64 t] 31)).alloc (.cells #[.int .i64 0, .int .i64 0, .int .i64 0, .slice none 0 0, .int .i64 0, .int .i64 0] 31)).drew w.heap.size 2 A ps.length (pvals ps) := ((hr.keep (Nat.le_refl _) B0).reads).drew
  have s0 : Below w.heap.size w ((w.alloc (.cells #[.int .i64 o, .int .i64 l, .int .i64 m, .slice A ps.length c, .int .i64 b, .int .i64 t] 31)).alloc (.cells #[.int .i64 0, .int .i64 0, .int .i64 0, .slice none 0 0, .int .i64 0, .int .i64 0] 31)).drew ∧ ((w.alloc (.cells #[.int .i64 o, .int .i64 l, .int .i64 m, .slice A ps.length c, .int .i64 b, .int .i64 t] 31)).alloc (.cells #[.int .i64 0, .int .i64 0, .int .i64 0, .slice none 0 0, .int .i64 0, .int .i64 0] 31)).drew.cell? ⟨w.heap.size, 0, none⟩ = some (.int .i64 o) ∧ ((w.alloc (.cells #[.int .i64 o, .int .i64 l, .int .i64 m, .slice A ps.length c, .int .i64 b, .int .i64 t] 31)).alloc (.cells #[.int .i64 0, .int .i64 0, .int .i64 0, .slice none 0 0, .int .i64 0, .int .i64 0] 31)).drew.cell? ⟨w.heap.size, 1, none⟩ = some (.int .i64 l) ∧ ((w.alloc (.cells #[.int .i64 o, .int .i64 l, .int .i64 m, .slice A ps.length c, .int .i64 b, .int .i64 t] 31)).alloc (.cells #[.int .i64 0, .int .i64 0, .int .i64 0, .slice none 0 0, .int .i64 0, .int .i64 0] 31)).drew.cell? ⟨w.heap.size, 2, none⟩ = some (.int .i64 m) ∧ ((w.alloc (.cells #[.int .i64 o, .int .i64 l, .int .i64 m, .slice A ps.length c, .int .i64 b, .int .i64 t] 31)).alloc (.cells #[.int .i64 0, .int .i64 0, .int .i64 0, .slice none 0 0, .int .i64 0, .int .i64 0] 31)).drew.cell? ⟨w.heap.size, 3, none⟩ = some (.slice A ps.length c) ∧ ((w.alloc (.cells #[.int .i64 o, .int .i64 l, .int .i64 m, .slice A ps.length c, .int .i64 b, .int .i64 t] 31)).alloc (.cells #[.int .i64 0, .int .i64 0, .int .i64 0, .slice none 0 0, .int .i64 0, .int .i64 0] 31)).drew.cell? ⟨w.heap.size, 4, none⟩ = some (.int .i64 b) ∧ ((w.alloc (.cells #[.int .i64 o, .int .i64 l, .int .i64 m, .slice A ps.length c, .int .i64 b, .int .i64 t] 31)).alloc (.cells #[.int .i64 0, .int .i64 0, .int .i64 0, .slice none 0 0, .int .i64 0, .int .i64 0] 31)).drew.cell? ⟨w.heap.size, 5, none⟩ = some (.int .i64 t) := ⟨B0.drew, K0.cell 0, K0.cell 1, K0.cell 2, K0.cell 3, K0.cell 4, K0.cell 5⟩
  have CG := hide (fun wx => spec_l2Grows o l m A ps.length c b t wx (by omega) (by omega) (by omega) (by omega) (by omega))
  have hcc := Sx.can_code hk hc
  have CY := hide (fun w2 (hb : Below w.heap.size w w2) => spec_l2Any o l m A c b t x ps w2 (hr.keep hb.size hb) hl0 hl1 hn1 h3 hcc)
  have HL := (Sx.any_length l ps t x).1
  rw [← str_size] at HL
  have HL : 0 < (str (Sx.anyW l ps t x)).size := HL
  have HP : Sx.stepP l m ps b t x = ps ++ [(t, Sx.fstB (str (Sx.anyW l ps t x)))] := (Sx.adv_grow hx hg).1
  obtain ⟨u, hu⟩ : ∃ u, u = str (Sx.anyW l ps t x) := ⟨_, rfl⟩
  rw [← hu] at CY HL HP
  have HP := hide HP
  have hl1 : (ps ++ [(t, Sx.fstB u)]).length = ps.length + 1 := by simp
  have e1 : IntKind.i64.wrap ((u[0].toNat : Nat) : Int) = Sx.fstB u := by rw [Sx.fst_of HL]; exact IntWalk.i64_in _ (by have := UInt8.toNat_lt u[0]; omega)
  rw [hg] at CG
  clear hx hg hc hk h3 ht1 hcc hu
  go_enter Try.func101, Try.ntmps101
  go_wp2_with fail
  refine wp_region_final_drew (S := (fun W => Below w.heap.size w W ∧ W.cell? ⟨w.heap.size, 0, none⟩ = some (.int .i64 o) ∧ W.cell? ⟨w.heap.size, 1, none⟩ = some (.int .i64 l) ∧ W.cell? ⟨w.heap.size, 2, none⟩ = some (.int .i64 m) ∧ W.cell? ⟨w.heap.size, 3, none⟩ = some (.slice A ps.length c) ∧ W.cell? ⟨w.heap.size, 4, none⟩ = some (.int .i64 b) ∧ W.cell? ⟨w.heap.size, 5, none⟩ = some (.int .i64 t))) 11 (by kernel_rfl) (by first | assumption | exact s0) (fun hHeld => ?_)
  refine wpAnyF_take (i := 0) (oi := { dst := some 6, op := Op.fieldAddr 31 (Operand.tmp 2) 0, type := 0, pos := "l2_words.go:138", after := #[], guard := none }) (v := ?_) rfl (by kernel_rfl) (by kernel_rfl) (by kernel_rfl) (by kernel_rfl) (fun _ _ _ h => h) (Or.inl ⟨by rfl, ?_⟩) (by assumption) ?_; rotate_left
  · intro W hW; (try dsimp only at hW); go_simp;  try (with_reducible rfl)
  try simp only [Act.put, List.setIfInBounds_toArray, List.set_cons_zero, List.set_cons_succ]
  refine wpAnyF_take (i := 1) (oi := { dst := some 7, op := Op.load 28 (Operand.tmp 6), type := 28, pos := "l2_words.go:138", after := #[{ on := 0, ground := Ground.data }], guard := none }) (v := ?_) rfl (by kernel_rfl) (by kernel_rfl) (by kernel_rfl) (by kernel_rfl) (fun _ _ _ h => h) (Or.inl ⟨by rfl, ?_⟩) (by assumption) ?_; rotate_left
  · intro W hW; (try dsimp only at hW); go_simp;  try (with_reducible rfl)
  try simp only [Act.put, List.setIfInBounds_toArray, List.set_cons_zero, List.set_cons_succ]
  refine wpAnyF_take (i := 3) (oi := { dst := some 9, op := Op.fieldAddr 31 (Operand.tmp 2) 1, type := 0, pos := "l2_words.go:138", after := #[], guard := none }) (v := ?_) rfl (by kernel_rfl) (by kernel_rfl) (by kernel_rfl) (by kernel_rfl) (fun _ _ _ h => h) (Or.inl ⟨by rfl, ?_⟩) (by assumption) ?_; rotate_left
  · intro W hW; (try dsimp only at hW); go_simp;  try (with_reducible rfl)
  try simp only [Act.put, List.setIfInBounds_toArray, List.set_cons_zero, List.set_cons_succ]
  refine wpAnyF_take (i := 4) (oi := { dst := some 10, op := Op.load 29 (Operand.tmp 9), type := 29, pos := "l2_words.go:138", after := #[{ on := 3, ground := Ground.data }], guard := none }) (v := ?_) rfl (by kernel_rfl) (by kernel_rfl) (by kernel_rfl) (by kernel_rfl) (fun _ _ _ h => h) (Or.inl ⟨by rfl, ?_⟩) (by assumption) ?_; rotate_left
  · intro W hW; (try dsimp only at hW); go_simp;  try (with_reducible rfl)
  try simp only [Act.put, List.setIfInBounds_toArray, List.set_cons_zero, List.set_cons_succ]
  refine wpAnyF_take (i := 6) (oi := { dst := some 12, op := Op.fieldAddr 31 (Operand.tmp 2) 2, type := 0, pos := "l2_words.go:138", after := #[], guard := none }) (v := ?_) rfl (by kernel_rfl) (by kernel_rfl) (by kernel_rfl) (by kernel_rfl) (fun _ _ _ h => h) (Or.inl ⟨by rfl, ?_⟩) (by assumption) ?_; rotate_left
  · intro W hW; (try dsimp only at hW); go_simp;  try (with_reducible rfl)
  try simp only [Act.put, List.setIfInBounds_toArray, List.set_cons_zero, List.set_cons_succ]
  refine wpAnyF_take (i := 7) (oi := { dst := some 13, op := Op.load 3 (Operand.tmp 12), type := 3, pos := "l2_words.go:138", after := #[{ on := 6, ground := Ground.data }], guard := none }) (v := ?_) rfl (by kernel_rfl) (by kernel_rfl) (by kernel_rfl) (by kernel_rfl) (fun _ _ _ h => h) (Or.inl ⟨by rfl, ?_⟩) (by assumption) ?_; rotate_left
  · intro W hW; (try dsimp only at hW); go_simp;  try (with_reducible rfl)
  try simp only [Act.put, List.setIfInBounds_toArray, List.set_cons_zero, List.set_cons_succ]
  refine wpAnyF_take (i := 8) (oi := { dst := some 14, op := Op.move (Operand.tmp 1), type := 3, pos := "l2_words.go:138", after := #[], guard := none }) (v := ?_) rfl (by kernel_rfl) (by kernel_rfl) (by kernel_rfl) (by kernel_rfl) (fun _ _ _ h => h) (Or.inl ⟨by rfl, ?_⟩) (by assumption) ?_; rotate_left
  · intro W hW; (try dsimp only at hW); go_simp;  try (with_reducible rfl)
  try simp only [Act.put, List.setIfInBounds_toArray, List.set_cons_zero, List.set_cons_succ]
  refine wpAnyF_ready (rs := [2, 10]) (by kernel_rfl) (by simp) (AllReadyF.cons (i := 2) (o := { dst := some 8, op := Op.buildSlice 29 0 #[], type := 29, pos := "l2_words.go:138", after := #[], guard := none }) rfl (fun K hK => ?_) (AllReadyF.cons (i := 10) (o := { dst := some 5, op := Op.alloc 31, type := 0, pos := "l2_words.go:138", after := #[], guard := none }) rfl (fun K hK => ?_) AllReadyF.nil))
  · skip
    go_simp
    have R1 := R0.alloc (.cells #[] 63)
    have K1 := K0.alloc (.cells #[] 63)
    have O1 := own_base (own_emptyP ((w.alloc (.cells #[.int .i64 o, .int .i64 l, .int .i64 m, .slice A ps.length c, .int .i64 b, .int .i64 t] 31)).alloc (.cells #[.int .i64 0, .int .i64 0, .int .i64 0, .slice none 0 0, .int .i64 0, .int .i64 0] 31)).drew 63 2 (w.heap.size + 2) (by first | rfl | (simp; done))) (by omega : w.heap.size + 2 ≤ (w.heap.size + 2))
    have P1 := P0.alloc (by first | omega | (simp; done) | (simp; omega)) (.cells #[] 63)
    refine hK.out _ _ (by (try dsimp only); first | exact keep6 ((Below.refl _ _).alloc (Nat.le_refl _) _) (by assumption)) (fun hHeld => ?_)
    clear hK K
    try simp only [Act.put, List.setIfInBounds_toArray, List.set_cons_zero, List.set_cons_succ]
    refine wpAnyF_ready (rs := [5, 10]) (by kernel_rfl) (by simp) (AllReadyF.cons (i := 5) (o := { dst := some 11, op := Op.call { callee := Callee.builtin Builtin.append, args := #[Operand.tmp 8, Operand.tmp 10], argTypes := #[29, 29] }, type := 29, pos := "l2_words.go:138", after := #[{ on := 2, ground := Ground.data }, { on := 4, ground := Ground.data }], guard := none }) rfl (fun K hK => ?_) (AllReadyF.cons (i := 10) (o := { dst := some 5, op := Op.alloc 31, type := 0, pos := "l2_words.go:138", after := #[], guard := none }) rfl (fun K hK => ?_) AllReadyF.nil))
    · skip
      refine wp_append_any _ _ _ _ rfl (w.heap.size + 2) 63 i0 (.agg #[.int .i64 0, .int .i64 0]) 2 16 Try.underlying29 hi0 hz0 hz1 hz2 (by rfl) (by decide) (.slice (some ⟨w.heap.size + 2, 0, none⟩) 0 0) 0 [] (by first | rfl | simp [Act.eval]) O1 _ A ps.length c (pvals ps) (by first | rfl | simp [Act.eval]) P1 (pvals_one _) (by simp only [maxLen]; omega) (by omega) (by first | omega | (simp; done) | (simp; omega)) ?_
      intro v' w9 hown9 hgrow hsh
      rw [Nat.zero_add, List.nil_append] at hown9
      obtain ⟨A', c', rfl⟩ := own_shapeN hown9
      have hl9 := hown9.lt
      have R2 := R1.grown hgrow (by simp [Value.ownBlock])
      have K2 := K1.grown hgrow (by simp [Value.ownBlock]; try omega)
      have O2 := hown9
      have HK := keepG6' hHeld hgrow (by simp [Value.ownBlock]; try omega) (by simp [Value.ownBlock]; try omega)
      clear hgrow hsh hHeld
      refine hK.out _ _ (by (try dsimp only); first | exact HK) (fun hHeld => ?_)
      clear hK K
      try simp only [Act.put, List.setIfInBounds_toArray, List.set_cons_zero, List.set_cons_succ]
      refine wpAnyF_take (i := 9) (oi := { dst := some 15, op := Op.build 31 #[(0, Operand.tmp 7), (1, Operand.tmp 11), (2, Operand.tmp 13), (3, Operand.tmp 14)], type := 31, pos := "l2_words.go:138", after := #[{ on := 1, ground := Ground.data }, { on := 5, ground := Ground.data }, { on := 7, ground := Ground.data }, { on := 8, ground := Ground.data }], guard := none }) (v := ?_) rfl (by kernel_rfl) (by kernel_rfl) (by kernel_rfl) (by kernel_rfl) (fun _ _ _ h => h) (Or.inl ⟨by rfl, ?_⟩) (by assumption) ?_; rotate_left
      · intro W hW; (try dsimp only at hW); go_simp;  try (with_reducible rfl)
      try simp only [Act.put, List.setIfInBounds_toArray, List.set_cons_zero, List.set_cons_succ]
      refine wpAnyF_ready (rs := [10]) (by kernel_rfl) (by simp) (AllReadyF.cons (i := 10) (o := { dst := some 5, op := Op.alloc 31, type := 0, pos := "l2_words.go:138", after := #[], guard := none }) rfl (fun K hK => ?_) AllReadyF.nil)
      go_simp
      have hrl2 := R2.lt
      have R3 := R2.alloc (.cells #[.int .i64 0, .int .i64 0, .int .i64 0, .slice none 0 0, .int .i64 0, .int .i64 0] 31)
      have K3 := K2.alloc (.cells #[.int .i64 0, .int .i64 0, .int .i64 0, .slice none 0 0, .int .i64 0, .int .i64 0] 31)
      have G3 := blk_newN w9 31 #[.int .i64 0, .int .i64 0, .int .i64 0, .slice none 0 0, .int .i64 0, .int .i64 0] w9.heap.size (by first | rfl | (simp; done))
      have O3 := O2.alloc (.cells #[.int .i64 0, .int .i64 0, .int .i64 0, .slice none 0 0, .int .i64 0, .int .i64 0] 31)
      refine hK.out _ _ (by (try dsimp only); first | exact keep6 ((Below.refl _ _).alloc (Nat.le_refl _) _) (by assumption)) (fun hHeld => ?_)
      clear hK K
      try simp only [Act.put, List.setIfInBounds_toArray, List.set_cons_zero, List.set_cons_succ]
      refine wpAnyF_ready (rs := [11]) (by kernel_rfl) (by simp) (AllReadyF.last (o := { dst := none, op := Op.store 31 (Operand.tmp 5) (Operand.tmp 15), type := 0, pos := "l2_words.go:138", after := #[{ on := 10, ground := Ground.data }, { on := 9, ground := Ground.data }, { on := 5, ground := Ground.chain }, { on := 0, ground := Ground.phase }, { on := 1, ground := Ground.phase }, { on := 2, ground := Ground.phase }, { on := 3, ground := Ground.phase }, { on := 4, ground := Ground.phase }, { on := 5, ground := Ground.phase }, { on := 6, ground := Ground.phase }, { on := 7, ground := Ground.phase }, { on := 8, ground := Ground.phase }, { on := 9, ground := Ground.phase }, { on := 10, ground := Ground.phase }], guard := none }) rfl (fun K hK => ?_))
      have c0 : (w9.alloc (.cells #[.int .i64 0, .int .i64 0, .int .i64 0, .slice none 0 0, .int .i64 0, .int .i64 0] 31)).cell? ⟨w9.heap.size, 0, none⟩ = some (.int .i64 0) := G3.cell 0
      have c1 : (w9.alloc (.cells #[.int .i64 0, .int .i64 0, .int .i64 0, .slice none 0 0, .int .i64 0, .int .i64 0] 31)).cell? ⟨w9.heap.size, 1, none⟩ = some (.int .i64 0) := G3.cell 1
      have c2 : (w9.alloc (.cells #[.int .i64 0, .int .i64 0, .int .i64 0, .slice none 0 0, .int .i64 0, .int .i64 0] 31)).cell? ⟨w9.heap.size, 2, none⟩ = some (.int .i64 0) := G3.cell 2
      have c3 : (w9.alloc (.cells #[.int .i64 0, .int .i64 0, .int .i64 0, .slice none 0 0, .int .i64 0, .int .i64 0] 31)).cell? ⟨w9.heap.size, 3, none⟩ = some (.slice none 0 0) := G3.cell 3
      have c4 : (w9.alloc (.cells #[.int .i64 0, .int .i64 0, .int .i64 0, .slice none 0 0, .int .i64 0, .int .i64 0] 31)).cell? ⟨w9.heap.size, 4, none⟩ = some (.int .i64 0) := G3.cell 4
      have c5 : (w9.alloc (.cells #[.int .i64 0, .int .i64 0, .int .i64 0, .slice none 0 0, .int .i64 0, .int .i64 0] 31)).cell? ⟨w9.heap.size, 5, none⟩ = some (.int .i64 0) := G3.cell 5
      have fc0 := G3.frozen 0
      have fc1 := G3.frozen 1
      have fc2 := G3.frozen 2
      have fc3 := G3.frozen 3
      have fc4 := G3.frozen 4
      have fc5 := G3.frozen 5
      have hge : w.heap.size + 2 ≤ w9.heap.size := by first | omega | (have := R2.lt; omega)
      have hrl := R2.lt
      have KW := K2.alloc (.cells #[.int .i64 o, .int .i64 l, .int .i64 m, (.slice A' ps.length c'), .int .i64 b, .int .i64 x] 31)
      have RW := R2.alloc (.cells #[.int .i64 o, .int .i64 l, .int .i64 m, (.slice A' ps.length c'), .int .i64 b, .int .i64 x] 31)
      have GW := Blk.new w9 31 #[.int .i64 o, .int .i64 l, .int .i64 m, (.slice A' ps.length c'), .int .i64 b, .int .i64 x]
      have BW := HK.1.alloc (by omega) (.cells #[.int .i64 o, .int .i64 l, .int .i64 m, (.slice A' ps.length c'), .int .i64 b, .int .i64 x] 31)
      have OW := O2.alloc (.cells #[.int .i64 o, .int .i64 l, .int .i64 m, (.slice A' ps.length c'), .int .i64 b, .int .i64 x] 31)
      go_simp
      clear c0 fc0 c1 fc1 c2 fc2 c3 fc3 c4 fc4 c5 fc5 K3 R3 G3 O3 HK
      refine hK.out _ _ ?_
      clear hK K
      try simp only [Act.put, List.setIfInBounds_toArray, List.set_cons_zero, List.set_cons_succ]
      refine wpAnyF_done (by kernel_rfl) ?_ _
      have a0 : (w9.alloc (.cells #[.int .i64 o, .int .i64 l, .int .i64 m, (.slice A' ps.length c'), .int .i64 b, .int .i64 x] 31)).cell? ⟨w.heap.size, 0, none⟩ = some (.int .i64 o) := KW.cell 0
      have a1 : (w9.alloc (.cells #[.int .i64 o, .int .i64 l, .int .i64 m, (.slice A' ps.length c'), .int .i64 b, .int .i64 x] 31)).cell? ⟨w.heap.size, 1, none⟩ = some (.int .i64 l) := KW.cell 1
      have a2 : (w9.alloc (.cells #[.int .i64 o, .int .i64 l, .int .i64 m, (.slice A' ps.length c'), .int .i64 b, .int .i64 x] 31)).cell? ⟨w.heap.size, 2, none⟩ = some (.int .i64 m) := KW.cell 2
      have a3 : (w9.alloc (.cells #[.int .i64 o, .int .i64 l, .int .i64 m, (.slice A' ps.length c'), .int .i64 b, .int .i64 x] 31)).cell? ⟨w.heap.size, 3, none⟩ = some (.slice A ps.length c) := KW.cell 3
      have a4 : (w9.alloc (.cells #[.int .i64 o, .int .i64 l, .int .i64 m, (.slice A' ps.length c'), .int .i64 b, .int .i64 x] 31)).cell? ⟨w.heap.size, 4, none⟩ = some (.int .i64 b) := KW.cell 4
      have a5 : (w9.alloc (.cells #[.int .i64 o, .int .i64 l, .int .i64 m, (.slice A' ps.length c'), .int .i64 b, .int .i64 x] 31)).cell? ⟨w.heap.size, 5, none⟩ = some (.int .i64 t) := KW.cell 5
      go_wp2_with fail
      refine ((unhide CG) _).mono ?_; rintro e w7 ⟨rfl, hb7⟩
      have K7 := KW.below hb7 KW.lt
      have R7 := RW.below hb7 RW.lt
      have G7 := GW.below hb7 GW.lt
      have O7 := own_below OW hb7
      have B7 := below_next (Nat.le_refl _) BW hb7
      clear RW KW GW OW BW hb7 a0 a1 a2 a3 a4 a5
      have s3 : Below w.heap.size w w7.drew ∧ w7.drew.cell? ⟨w.heap.size, 0, none⟩ = some (.int .i64 o) ∧ w7.drew.cell? ⟨w.heap.size, 1, none⟩ = some (.int .i64 l) ∧ w7.drew.cell? ⟨w.heap.size, 2, none⟩ = some (.int .i64 m) ∧ w7.drew.cell? ⟨w.heap.size, 3, none⟩ = some (.slice A ps.length c) ∧ w7.drew.cell? ⟨w.heap.size, 4, none⟩ = some (.int .i64 b) ∧ w7.drew.cell? ⟨w.heap.size, 5, none⟩ = some (.int .i64 t) ∧ w7.drew.cell? ⟨w9.heap.size, 3, none⟩ = some (.slice A' ps.length c') := ⟨B7.drew, K7.cell 0, K7.cell 1, K7.cell 2, K7.cell 3, K7.cell 4, K7.cell 5, G7.cell 3⟩
      clear K7 B7
      go_wp2_with fail
      refine wp_region_final_drew (S := (fun W => Below w.heap.size w W ∧ W.cell? ⟨w.heap.size, 0, none⟩ = some (.int .i64 o) ∧ W.cell? ⟨w.heap.size, 1, none⟩ = some (.int .i64 l) ∧ W.cell? ⟨w.heap.size, 2, none⟩ = some (.int .i64 m) ∧ W.cell? ⟨w.heap.size, 3, none⟩ = some (.slice A ps.length c) ∧ W.cell? ⟨w.heap.size, 4, none⟩ = some (.int .i64 b) ∧ W.cell? ⟨w.heap.size, 5, none⟩ = some (.int .i64 t) ∧ W.cell? ⟨w9.heap.size, 3, none⟩ = some (.slice A' ps.length c'))) 13 (by kernel_rfl) (by first | assumption | exact s3 | exact keep7 (by assumption) (by assumption)) (fun hHeld => ?_)
      refine wpAnyF_take (i := 0) (oi := { dst := some 18, op := Op.fieldAddr 31 (Operand.tmp 5) 1, type := 0, pos := "l2_words.go:140", after := #[], guard := none }) (v := ?_) rfl (by kernel_rfl) (by kernel_rfl) (by kernel_rfl) (by kernel_rfl) (fun _ _ _ h => h) (Or.inl ⟨by rfl, ?_⟩) (by assumption) ?_; rotate_left
      · intro W hW; (try dsimp only at hW); go_simp;  try (with_reducible rfl)
      try simp only [Act.put, List.setIfInBounds_toArray, List.set_cons_zero, List.set_cons_succ]
      refine wpAnyF_take (i := 1) (oi := { dst := some 19, op := Op.load 29 (Operand.tmp 18), type := 29, pos := "l2_words.go:140", after := #[{ on := 0, ground := Ground.data }], guard := none }) (v := ?_) rfl (by kernel_rfl) (by kernel_rfl) (by kernel_rfl) (by kernel_rfl) (fun _ _ _ h => h) (Or.inl ⟨by rfl, ?_⟩) (by assumption) ?_; rotate_left
      · intro W hW; (try dsimp only at hW); go_simp;  try (with_reducible rfl)
      try simp only [Act.put, List.setIfInBounds_toArray, List.set_cons_zero, List.set_cons_succ]
      refine wpAnyF_take (i := 2) (oi := { dst := some 20, op := Op.fieldAddr 31 (Operand.tmp 2) 3, type := 0, pos := "l2_words.go:140", after := #[], guard := none }) (v := ?_) rfl (by kernel_rfl) (by kernel_rfl) (by kernel_rfl) (by kernel_rfl) (fun _ _ _ h => h) (Or.inl ⟨by rfl, ?_⟩) (by assumption) ?_; rotate_left
      · intro W hW; (try dsimp only at hW); go_simp;  try (with_reducible rfl)
      try simp only [Act.put, List.setIfInBounds_toArray, List.set_cons_zero, List.set_cons_succ]
      refine wpAnyF_take (i := 3) (oi := { dst := some 21, op := Op.load 3 (Operand.tmp 20), type := 3, pos := "l2_words.go:140", after := #[{ on := 2, ground := Ground.data }], guard := none }) (v := ?_) rfl (by kernel_rfl) (by kernel_rfl) (by kernel_rfl) (by kernel_rfl) (fun _ _ _ h => h) (Or.inl ⟨by rfl, ?_⟩) (by assumption) ?_; rotate_left
      · intro W hW; (try dsimp only at hW); go_simp;  try (with_reducible rfl)
      try simp only [Act.put, List.setIfInBounds_toArray, List.set_cons_zero, List.set_cons_succ]
      refine wpAnyF_take (i := 4) (oi := { dst := some 22, op := Op.load 31 (Operand.tmp 2), type := 31, pos := "l2_words.go:140", after := #[], guard := none }) (v := ?_) rfl (by kernel_rfl) (by kernel_rfl) (by kernel_rfl) (by kernel_rfl) (fun _ _ _ h => h) (Or.inl ⟨by rfl, ?_⟩) (by assumption) ?_; rotate_left
      · intro W hW; (try dsimp only at hW); go_simp;  try (with_reducible rfl)
      try simp only [Act.put, List.setIfInBounds_toArray, List.set_cons_zero, List.set_cons_succ]
      refine wpAnyF_take (i := 5) (oi := { dst := some 23, op := Op.move (Operand.tmp 1), type := 3, pos := "l2_words.go:140", after := #[], guard := none }) (v := ?_) rfl (by kernel_rfl) (by kernel_rfl) (by kernel_rfl) (by kernel_rfl) (fun _ _ _ h => h) (Or.inl ⟨by rfl, ?_⟩) (by assumption) ?_; rotate_left
      · intro W hW; (try dsimp only at hW); go_simp;  try (with_reducible rfl)
      try simp only [Act.put, List.setIfInBounds_toArray, List.set_cons_zero, List.set_cons_succ]
      refine wpAnyF_ready (rs := [6]) (by kernel_rfl) (by simp) (AllReadyF.cons (i := 6) (o := { dst := some 24, op := Op.call { callee := Callee.value (Operand.func 90), args := #[Operand.tmp 22, Operand.tmp 23], argTypes := #[31, 3] }, type := 9, pos := "l2_words.go:140", after := #[{ on := 4, ground := Ground.data }, { on := 5, ground := Ground.data }], guard := none }) rfl (fun K hK => ?_) AllReadyF.nil)
      go_simp
      refine ((unhide CY) _ hHeld.1).mono ?_; rintro e wa ⟨rfl, hb⟩
      have R8 := R7.drew.below hb R7.lt
      have G8 := G7.drew.below hb G7.lt
      have O8 := own_below (w := w7.drew) O7 hb
      try go_wp2_with fail
      refine hK.out _ _ (by (try dsimp only); first | assumption | exact s3 | exact keep7 (by assumption) (by assumption)) (fun hHeld => ?_)
      clear hK K
      try simp only [Act.put, List.setIfInBounds_toArray, List.set_cons_zero, List.set_cons_succ]
      refine wpAnyF_take (i := 7) (oi := { dst := some 25, op := Op.index 9 (Operand.tmp 24) (Operand.const (Value.int IntKind.i64 0)), type := 5, pos := "l2_words.go:140", after := #[{ on := 6, ground := Ground.data }], guard := none }) (v := ?_) rfl (by kernel_rfl) (by kernel_rfl) (by kernel_rfl) (by kernel_rfl) (fun _ _ _ h => h) (Or.inl ⟨by rfl, ?_⟩) (by assumption) ?_; rotate_left
      · intro W hW; (try dsimp only at hW); go_simp;  try (with_reducible rfl)
      try simp only [Act.put, List.setIfInBounds_toArray, List.set_cons_zero, List.set_cons_succ]
      refine wpAnyF_take (i := 8) (oi := { dst := some 26, op := Op.convert 5 3 (Operand.tmp 25), type := 3, pos := "l2_words.go:140", after := #[{ on := 7, ground := Ground.data }], guard := none }) (v := ?_) rfl (by kernel_rfl) (by kernel_rfl) (by kernel_rfl) (by kernel_rfl) (fun _ _ _ h => h) (Or.inl ⟨by rfl, ?_⟩) (by assumption) ?_; rotate_left
      · intro W hW; (try dsimp only at hW); go_simp;  try (with_reducible rfl)
      try simp only [Act.put, List.setIfInBounds_toArray, List.set_cons_zero, List.set_cons_succ]
      refine wpAnyF_take (i := 9) (oi := { dst := some 27, op := Op.build 63 #[(0, Operand.tmp 21), (1, Operand.tmp 26)], type := 63, pos := "l2_words.go:140", after := #[{ on := 3, ground := Ground.data }, { on := 8, ground := Ground.data }], guard := none }) (v := ?_) rfl (by kernel_rfl) (by kernel_rfl) (by kernel_rfl) (by kernel_rfl) (fun _ _ _ h => h) (Or.inl ⟨by rfl, ?_⟩) (by assumption) ?_; rotate_left
      · intro W hW; (try dsimp only at hW); go_simp;  try (with_reducible rfl)
      try simp only [Act.put, List.setIfInBounds_toArray, List.set_cons_zero, List.set_cons_succ]
      refine wpAnyF_ready (rs := [10]) (by kernel_rfl) (by simp) (AllReadyF.cons (i := 10) (o := { dst := some 28, op := Op.buildSlice 29 1 #[(0, Operand.tmp 27)], type := 29, pos := "l2_words.go:140", after := #[{ on := 9, ground := Ground.data }], guard := none }) rfl (fun K hK => ?_) AllReadyF.nil)
      go_simp
      have R9 := R8.alloc (.cells #[.int .i64 t, .int .i64 (Sx.fstB u)] 63)
      have G9 := G8.alloc (.cells #[.int .i64 t, .int .i64 (Sx.fstB u)] 63)
      have O9 := O8.alloc (.cells #[.int .i64 t, .int .i64 (Sx.fstB u)] 63)
      have PN : PR (wa.alloc (.cells #[.int .i64 t, .int .i64 (Sx.fstB u)] 63)) (wa.heap.size + 1) (some ⟨wa.heap.size, 0, none⟩) [(t, Sx.fstB u)] := PR.of_blk (Blk.new wa 63 #[.int .i64 t, .int .i64 (Sx.fstB u)]) (by omega)
      have hwa := R8.lt
      refine hK.out _ _ (by (try dsimp only); first | exact keep7 ((Below.refl _ _).alloc (Nat.le_refl _) _) (by assumption)) (fun hHeld => ?_)
      clear hK K
      try simp only [Act.put, List.setIfInBounds_toArray, List.set_cons_zero, List.set_cons_succ]
      refine wpAnyF_ready (rs := [11]) (by kernel_rfl) (by simp) (AllReadyF.cons (i := 11) (o := { dst := some 29, op := Op.call { callee := Callee.builtin Builtin.append, args := #[Operand.tmp 19, Operand.tmp 28], argTypes := #[29, 29] }, type := 29, pos := "l2_words.go:140", after := #[{ on := 1, ground := Ground.data }, { on := 10, ground := Ground.data }, { on := 6, ground := Ground.chain }], guard := none }) rfl (fun K hK => ?_) AllReadyF.nil)
      refine wp_append_any _ _ _ _ rfl (w.heap.size + 2) 63 i0 (.agg #[.int .i64 0, .int .i64 0]) 2 16 Try.underlying29 hi0 hz0 hz1 hz2 (by rfl) (by decide) (.slice A' ps.length c') ps.length (pvals ps) (by first | rfl | simp [Act.eval]) O9 _ _ 1 1 (pvals [(t, Sx.fstB u)]) (by first | rfl | simp [Act.eval]) PN.reads (pvals_one _) (by simp only [maxLen]; omega) (by omega) (by first | omega | (simp; done) | (simp; omega)) ?_
      intro v' wz hownz hgrow hsh
      rw [← pvals_append] at hownz
      obtain ⟨A2, c2, rfl⟩ := own_shapeN hownz
      have Gz := G9.grown hgrow (own_blk_ne O9 G9 (by decide)).symm
      have Rz := R9.grown hgrow (own_blk_ne O9 R9 (by decide)).symm
      have HK := keepG7 hHeld hgrow (fun e => by have := (O9.lt _ e.symm).1; omega) (own_blk_ne O9 G9 (by decide)).symm (fun k hk => by have := (O9.lt _ hk).1; omega)
      clear hgrow hsh hHeld O9 G9 R9 O8 G8 R8 O7 G7 R7 PN
      refine hK.out _ _ (by (try dsimp only); first | exact HK) (fun hHeld => ?_)
      clear hK K
      try simp only [Act.put, List.setIfInBounds_toArray, List.set_cons_zero, List.set_cons_succ]
      refine wpAnyF_take (i := 12) (oi := { dst := some 30, op := Op.fieldAddr 31 (Operand.tmp 5) 1, type := 0, pos := "l2_words.go:140", after := #[{ on := 0, ground := Ground.phase }, { on := 1, ground := Ground.phase }, { on := 2, ground := Ground.phase }, { on := 3, ground := Ground.phase }, { on := 4, ground := Ground.phase }, { on := 5, ground := Ground.phase }, { on := 6, ground := Ground.phase }, { on := 7, ground := Ground.phase }, { on := 8, ground := Ground.phase }, { on := 9, ground := Ground.phase }, { on := 10, ground := Ground.phase }, { on := 11, ground := Ground.phase }], guard := none }) (v := ?_) rfl (by kernel_rfl) (by kernel_rfl) (by kernel_rfl) (by kernel_rfl) (fun _ _ _ h => h) (Or.inl ⟨by rfl, ?_⟩) (by assumption) ?_; rotate_left
      · intro W hW; (try dsimp only at hW); go_simp;  try (with_reducible rfl)
      try simp only [Act.put, List.setIfInBounds_toArray, List.set_cons_zero, List.set_cons_succ]
      refine wpAnyF_ready (rs := [13]) (by kernel_rfl) (by simp) (AllReadyF.last (o := { dst := none, op := Op.store 29 (Operand.tmp 30) (Operand.tmp 29), type := 0, pos := "l2_words.go:140", after := #[{ on := 12, ground := Ground.data }, { on := 11, ground := Ground.data }, { on := 11, ground := Ground.chain }, { on := 0, ground := Ground.phase }, { on := 1, ground := Ground.phase }, { on := 2, ground := Ground.phase }, { on := 3, ground := Ground.phase }, { on := 4, ground := Ground.phase }, { on := 5, ground := Ground.phase }, { on := 6, ground := Ground.phase }, { on := 7, ground := Ground.phase }, { on := 8, ground := Ground.phase }, { on := 9, ground := Ground.phase }, { on := 10, ground := Ground.phase }, { on := 11, ground := Ground.phase }], guard := none }) rfl (fun K hK => ?_))
      have c3 : wz.cell? ⟨w9.heap.size, 3, none⟩ = some (.slice A' ps.length c') := Gz.cell 3
      have f3 := Gz.frozen 3
      have GF := Gz.set_ 3 (.slice A2 (ps.length + 1) c2)
      have RF := Rz.far (p := ⟨w9.heap.size, 3, none⟩) (by first | (simp; done) | (simp; omega)) (.slice A2 (ps.length + 1) c2)
      have OF := hownz.kept (only_one wz w9.heap.size 3 (.slice A2 (ps.length + 1) c2)) (.inr (own_blk_ne hownz Gz (by decide)))
      have BF := belowSet HK.1 (i := 3) (by omega : w.heap.size ≤ w9.heap.size) (.slice A2 (ps.length + 1) c2)
      go_simp
      clear c3 f3 Gz Rz hownz HK
      refine hK.out _ _ ?_
      clear hK K
      try simp only [Act.put, List.setIfInBounds_toArray, List.set_cons_zero, List.set_cons_succ]
      refine wpAnyF_done (by kernel_rfl) ?_ _
      clear hHeld
      have g0 : (wz.setCell ⟨w9.heap.size, 3, none⟩ (.slice A2 (ps.length + 1) c2)).cell? ⟨w9.heap.size, 0, none⟩ = some (.int .i64 o) := GF.cell 0
      have g1 : (wz.setCell ⟨w9.heap.size, 3, none⟩ (.slice A2 (ps.length + 1) c2)).cell? ⟨w9.heap.size, 1, none⟩ = some (.int .i64 l) := GF.cell 1
      have g2 : (wz.setCell ⟨w9.heap.size, 3, none⟩ (.slice A2 (ps.length + 1) c2)).cell? ⟨w9.heap.size, 2, none⟩ = some (.int .i64 m) := GF.cell 2
      have g3 : (wz.setCell ⟨w9.heap.size, 3, none⟩ (.slice A2 (ps.length + 1) c2)).cell? ⟨w9.heap.size, 3, none⟩ = some (.slice A2 (ps.length + 1) c2) := GF.cell 3
      have g4 : (wz.setCell ⟨w9.heap.size, 3, none⟩ (.slice A2 (ps.length + 1) c2)).cell? ⟨w9.heap.size, 4, none⟩ = some (.int .i64 b) := GF.cell 4
      have g5 : (wz.setCell ⟨w9.heap.size, 3, none⟩ (.slice A2 (ps.length + 1) c2)).cell? ⟨w9.heap.size, 5, none⟩ = some (.int .i64 x) := GF.cell 5
      have r0 : (wz.setCell ⟨w9.heap.size, 3, none⟩ (.slice A2 (ps.length + 1) c2)).cell? ⟨(w.heap.size + 1), 0, none⟩ = some (.int .i64 0) := RF.cell 0
      have r1 : (wz.setCell ⟨w9.heap.size, 3, none⟩ (.slice A2 (ps.length + 1) c2)).cell? ⟨(w.heap.size + 1), 1, none⟩ = some (.int .i64 0) := RF.cell 1
      have r2 : (wz.setCell ⟨w9.heap.size, 3, none⟩ (.slice A2 (ps.length + 1) c2)).cell? ⟨(w.heap.size + 1), 2, none⟩ = some (.int .i64 0) := RF.cell 2
      have r3 : (wz.setCell ⟨w9.heap.size, 3, none⟩ (.slice A2 (ps.length + 1) c2)).cell? ⟨(w.heap.size + 1), 3, none⟩ = some (.slice none 0 0) := RF.cell 3
      have r4 : (wz.setCell ⟨w9.heap.size, 3, none⟩ (.slice A2 (ps.length + 1) c2)).cell? ⟨(w.heap.size + 1), 4, none⟩ = some (.int .i64 0) := RF.cell 4
      have r5 : (wz.setCell ⟨w9.heap.size, 3, none⟩ (.slice A2 (ps.length + 1) c2)).cell? ⟨(w.heap.size + 1), 5, none⟩ = some (.int .i64 0) := RF.cell 5
      have fr0 := RF.frozen 0
      have fr1 := RF.frozen 1
      have fr2 := RF.frozen 2
      have fr3 := RF.frozen 3
      have fr4 := RF.frozen 4
      have fr5 := RF.frozen 5
      go_wp2_with fail
      have q := blk6_set RF (.int .i64 o) (.int .i64 l) (.int .i64 m) (.slice A2 (ps.length + 1) c2) (.int .i64 b) (.int .i64 x)
      have OV := OF.kept (only6 _ (w.heap.size + 1) (.int .i64 o) (.int .i64 l) (.int .i64 m) (.slice A2 (ps.length + 1) c2) (.int .i64 b) (.int .i64 x)) (.inr (own_blk_ne OF RF (by decide)))
      have BV := below_set6 (g := w.heap.size + 1) BF (by omega) (.int .i64 o) (.int .i64 l) (.int .i64 m) (.slice A2 (ps.length + 1) c2) (.int .i64 b) (.int .i64 x)
      have q0 := q.cell 0
      have q1 := q.cell 1
      have q2 := q.cell 2
      have q3 := q.cell 3
      have q4 := q.cell 4
      have q5 := q.cell 5
      exact bodyPost_ret (v := kv o l m A2 (ps.length + 1) c2 b x) (by simp [results, Try.results101, go_sem, q0, q1, q2, q3, q4, q5]) rfl ⟨A2, c2, by rw [HP.out, hl1], by rw [HP.out]; exact OwnP.of_own hl1 (own_base OV (by omega)), by rw [HP.out, hl1]; exact own_cap OV, BV⟩
    · skip
      go_simp
      have hrl1 := R1.lt
      have R2 := R1.alloc (.cells #[.int .i64 0, .int .i64 0, .int .i64 0, .slice none 0 0, .int .i64 0, .int .i64 0] 31)
      have K2 := K1.alloc (.cells #[.int .i64 0, .int .i64 0, .int .i64 0, .slice none 0 0, .int .i64 0, .int .i64 0] 31)
      have G2 := blk_newN (((w.alloc (.cells #[.int .i64 o, .int .i64 l, .int .i64 m, .slice A ps.length c, .int .i64 b, .int .i64 t] 31)).alloc (.cells #[.int .i64 0, .int .i64 0, .int .i64 0, .slice none 0 0, .int .i64 0, .int .i64 0] 31)).drew.alloc (.cells #[] 63)) 31 #[.int .i64 0, .int .i64 0, .int .i64 0, .slice none 0 0, .int .i64 0, .int .i64 0] (w.heap.size + 3) (by first | rfl | (simp; done))
      have P2 := P1.alloc (by first | omega | (simp; done) | (simp; omega)) (.cells #[.int .i64 0, .int .i64 0, .int .i64 0, .slice none 0 0, .int .i64 0, .int .i64 0] 31)
      have O2 := O1.alloc (.cells #[.int .i64 0, .int .i64 0, .int .i64 0, .slice none 0 0, .int .i64 0, .int .i64 0] 31)
      refine hK.out _ _ (by (try dsimp only); first | exact keep6 ((Below.refl _ _).alloc (Nat.le_refl _) _) (by assumption)) (fun hHeld => ?_)
      clear hK K
      try simp only [Act.put, List.setIfInBounds_toArray, List.set_cons_zero, List.set_cons_succ]
      refine wpAnyF_ready (rs := [5]) (by kernel_rfl) (by simp) (AllReadyF.cons (i := 5) (o := { dst := some 11, op := Op.call { callee := Callee.builtin Builtin.append, args := #[Operand.tmp 8, Operand.tmp 10], argTypes := #[29, 29] }, type := 29, pos := "l2_words.go:138", after := #[{ on := 2, ground := Ground.data }, { on := 4, ground := Ground.data }], guard := none }) rfl (fun K hK => ?_) AllReadyF.nil)
      refine wp_append_any _ _ _ _ rfl (w.heap.size + 2) 63 i0 (.agg #[.int .i64 0, .int .i64 0]) 2 16 Try.underlying29 hi0 hz0 hz1 hz2 (by rfl) (by decide) (.slice (some ⟨w.heap.size + 2, 0, none⟩) 0 0) 0 [] (by first | rfl | simp [Act.eval]) O2 _ A ps.length c (pvals ps) (by first | rfl | simp [Act.eval]) P2 (pvals_one _) (by simp only [maxLen]; omega) (by omega) (by first | omega | (simp; done) | (simp; omega)) ?_
      intro v' w9 hown9 hgrow hsh
      rw [Nat.zero_add, List.nil_append] at hown9
      obtain ⟨A', c', rfl⟩ := own_shapeN hown9
      have hl9 := hown9.lt
      have R3 := R2.grown hgrow (by simp [Value.ownBlock])
      have K3 := K2.grown hgrow (by simp [Value.ownBlock]; try omega)
      have G3 := G2.grown hgrow (by simp [Value.ownBlock])
      have O3 := hown9
      have HK := keepG6' hHeld hgrow (by simp [Value.ownBlock]; try omega) (by simp [Value.ownBlock]; try omega)
      clear hgrow hsh hHeld
      refine hK.out _ _ (by (try dsimp only); first | exact HK) (fun hHeld => ?_)
      clear hK K
      try simp only [Act.put, List.setIfInBounds_toArray, List.set_cons_zero, List.set_cons_succ]
      refine wpAnyF_take (i := 9) (oi := { dst := some 15, op := Op.build 31 #[(0, Operand.tmp 7), (1, Operand.tmp 11), (2, Operand.tmp 13), (3, Operand.tmp 14)], type := 31, pos := "l2_words.go:138", after := #[{ on := 1, ground := Ground.data }, { on := 5, ground := Ground.data }, { on := 7, ground := Ground.data }, { on := 8, ground := Ground.data }], guard := none }) (v := ?_) rfl (by kernel_rfl) (by kernel_rfl) (by kernel_rfl) (by kernel_rfl) (fun _ _ _ h => h) (Or.inl ⟨by rfl, ?_⟩) (by assumption) ?_; rotate_left
      · intro W hW; (try dsimp only at hW); go_simp;  try (with_reducible rfl)
      try simp only [Act.put, List.setIfInBounds_toArray, List.set_cons_zero, List.set_cons_succ]
      refine wpAnyF_ready (rs := [11]) (by kernel_rfl) (by simp) (AllReadyF.last (o := { dst := none, op := Op.store 31 (Operand.tmp 5) (Operand.tmp 15), type := 0, pos := "l2_words.go:138", after := #[{ on := 10, ground := Ground.data }, { on := 9, ground := Ground.data }, { on := 5, ground := Ground.chain }, { on := 0, ground := Ground.phase }, { on := 1, ground := Ground.phase }, { on := 2, ground := Ground.phase }, { on := 3, ground := Ground.phase }, { on := 4, ground := Ground.phase }, { on := 5, ground := Ground.phase }, { on := 6, ground := Ground.phase }, { on := 7, ground := Ground.phase }, { on := 8, ground := Ground.phase }, { on := 9, ground := Ground.phase }, { on := 10, ground := Ground.phase }], guard := none }) rfl (fun K hK => ?_))
      have c0 : w9.cell? ⟨(w.heap.size + 3), 0, none⟩ = some (.int .i64 0) := G3.cell 0
      have c1 : w9.cell? ⟨(w.heap.size + 3), 1, none⟩ = some (.int .i64 0) := G3.cell 1
      have c2 : w9.cell? ⟨(w.heap.size + 3), 2, none⟩ = some (.int .i64 0) := G3.cell 2
      have c3 : w9.cell? ⟨(w.heap.size + 3), 3, none⟩ = some (.slice none 0 0) := G3.cell 3
      have c4 : w9.cell? ⟨(w.heap.size + 3), 4, none⟩ = some (.int .i64 0) := G3.cell 4
      have c5 : w9.cell? ⟨(w.heap.size + 3), 5, none⟩ = some (.int .i64 0) := G3.cell 5
      have fc0 := G3.frozen 0
      have fc1 := G3.frozen 1
      have fc2 := G3.frozen 2
      have fc3 := G3.frozen 3
      have fc4 := G3.frozen 4
      have fc5 := G3.frozen 5
      have hge : w.heap.size + 2 ≤ (w.heap.size + 3) := by first | omega | (have := R3.lt; omega)
      have hrl := R3.lt
      have KW := K3.far6 (g := (w.heap.size + 3)) (by omega) (.int .i64 o) (.int .i64 l) (.int .i64 m) (.slice A' ps.length c') (.int .i64 b) (.int .i64 x)
      have RW := R3.far6 (g := (w.heap.size + 3)) (by omega) (.int .i64 o) (.int .i64 l) (.int .i64 m) (.slice A' ps.length c') (.int .i64 b) (.int .i64 x)
      have GW := blk6_set G3 (.int .i64 o) (.int .i64 l) (.int .i64 m) (.slice A' ps.length c') (.int .i64 b) (.int .i64 x)
      have BW := below_set6 (g := (w.heap.size + 3)) hHeld.1 (by omega) (.int .i64 o) (.int .i64 l) (.int .i64 m) (.slice A' ps.length c') (.int .i64 b) (.int .i64 x)
      have OW := O3.kept (only6 w9 (w.heap.size + 3) (.int .i64 o) (.int .i64 l) (.int .i64 m) (.slice A' ps.length c') (.int .i64 b) (.int .i64 x)) (.inr (own_blk_ne O3 G3 (by decide)))
      go_simp
      clear c0 fc0 c1 fc1 c2 fc2 c3 fc3 c4 fc4 c5 fc5 K3 R3 G3 O3
      refine hK.out _ _ ?_
      clear hK K
      try simp only [Act.put, List.setIfInBounds_toArray, List.set_cons_zero, List.set_cons_succ]
      refine wpAnyF_done (by kernel_rfl) ?_ _
      have a0 : ((((((w9.setCell ⟨w.heap.size + 3, 0, none⟩ (.int .i64 o)).setCell ⟨w.heap.size + 3, 1, none⟩ (.int .i64 l)).setCell ⟨w.heap.size + 3, 2, none⟩ (.int .i64 m)).setCell ⟨w.heap.size + 3, 3, none⟩ (.slice A' ps.length c')).setCell ⟨w.heap.size + 3, 4, none⟩ (.int .i64 b)).setCell ⟨w.heap.size + 3, 5, none⟩ (.int .i64 x)).cell? ⟨w.heap.size, 0, none⟩ = some (.int .i64 o) := KW.cell 0
      have a1 : ((((((w9.setCell ⟨w.heap.size + 3, 0, none⟩ (.int .i64 o)).setCell ⟨w.heap.size + 3, 1, none⟩ (.int .i64 l)).setCell ⟨w.heap.size + 3, 2, none⟩ (.int .i64 m)).setCell ⟨w.heap.size + 3, 3, none⟩ (.slice A' ps.length c')).setCell ⟨w.heap.size + 3, 4, none⟩ (.int .i64 b)).setCell ⟨w.heap.size + 3, 5, none⟩ (.int .i64 x)).cell? ⟨w.heap.size, 1, none⟩ = some (.int .i64 l) := KW.cell 1
      have a2 : ((((((w9.setCell ⟨w.heap.size + 3, 0, none⟩ (.int .i64 o)).setCell ⟨w.heap.size + 3, 1, none⟩ (.int .i64 l)).setCell ⟨w.heap.size + 3, 2, none⟩ (.int .i64 m)).setCell ⟨w.heap.size + 3, 3, none⟩ (.slice A' ps.length c')).setCell ⟨w.heap.size + 3, 4, none⟩ (.int .i64 b)).setCell ⟨w.heap.size + 3, 5, none⟩ (.int .i64 x)).cell? ⟨w.heap.size, 2, none⟩ = some (.int .i64 m) := KW.cell 2
      have a3 : ((((((w9.setCell ⟨w.heap.size + 3, 0, none⟩ (.int .i64 o)).setCell ⟨w.heap.size + 3, 1, none⟩ (.int .i64 l)).setCell ⟨w.heap.size + 3, 2, none⟩ (.int .i64 m)).setCell ⟨w.heap.size + 3, 3, none⟩ (.slice A' ps.length c')).setCell ⟨w.heap.size + 3, 4, none⟩ (.int .i64 b)).setCell ⟨w.heap.size + 3, 5, none⟩ (.int .i64 x)).cell? ⟨w.heap.size, 3, none⟩ = some (.slice A ps.length c) := KW.cell 3
      have a4 : ((((((w9.setCell ⟨w.heap.size + 3, 0, none⟩ (.int .i64 o)).setCell ⟨w.heap.size + 3, 1, none⟩ (.int .i64 l)).setCell ⟨w.heap.size + 3, 2, none⟩ (.int .i64 m)).setCell ⟨w.heap.size + 3, 3, none⟩ (.slice A' ps.length c')).setCell ⟨w.heap.size + 3, 4, none⟩ (.int .i64 b)).setCell ⟨w.heap.size + 3, 5, none⟩ (.int .i64 x)).cell? ⟨w.heap.size, 4, none⟩ = some (.int .i64 b) := KW.cell 4
      have a5 : ((((((w9.setCell ⟨w.heap.size + 3, 0, none⟩ (.int .i64 o)).setCell ⟨w.heap.size + 3, 1, none⟩ (.int .i64 l)).setCell ⟨w.heap.size + 3, 2, none⟩ (.int .i64 m)).setCell ⟨w.heap.size + 3, 3, none⟩ (.slice A' ps.length c')).setCell ⟨w.heap.size + 3, 4, none⟩ (.int .i64 b)).setCell ⟨w.heap.size + 3, 5, none⟩ (.int .i64 x)).cell? ⟨w.heap.size, 5, none⟩ = some (.int .i64 t) := KW.cell 5
      go_wp2_with fail
      refine ((unhide CG) _).mono ?_; rintro e w7 ⟨rfl, hb7⟩
      have K7 := KW.below hb7 KW.lt
      have R7 := RW.below hb7 RW.lt
      have G7 := GW.below hb7 GW.lt
      have O7 := own_below OW hb7
      have B7 := below_next (Nat.le_refl _) BW hb7
      clear RW KW GW OW BW hb7 a0 a1 a2 a3 a4 a5
      have s3 : Below w.heap.size w w7.drew ∧ w7.drew.cell? ⟨w.heap.size, 0, none⟩ = some (.int .i64 o) ∧ w7.drew.cell? ⟨w.heap.size, 1, none⟩ = some (.int .i64 l) ∧ w7.drew.cell? ⟨w.heap.size, 2, none⟩ = some (.int .i64 m) ∧ w7.drew.cell? ⟨w.heap.size, 3, none⟩ = some (.slice A ps.length c) ∧ w7.drew.cell? ⟨w.heap.size, 4, none⟩ = some (.int .i64 b) ∧ w7.drew.cell? ⟨w.heap.size, 5, none⟩ = some (.int .i64 t) ∧ w7.drew.cell? ⟨w.heap.size + 3, 3, none⟩ = some (.slice A' ps.length c') := ⟨B7.drew, K7.cell 0, K7.cell 1, K7.cell 2, K7.cell 3, K7.cell 4, K7.cell 5, G7.cell 3⟩
      clear K7 B7
      go_wp2_with fail
      refine wp_region_final_drew (S := (fun W => Below w.heap.size w W ∧ W.cell? ⟨w.heap.size, 0, none⟩ = some (.int .i64 o) ∧ W.cell? ⟨w.heap.size, 1, none⟩ = some (.int .i64 l) ∧ W.cell? ⟨w.heap.size, 2, none⟩ = some (.int .i64 m) ∧ W.cell? ⟨w.heap.size, 3, none⟩ = some (.slice A ps.length c) ∧ W.cell? ⟨w.heap.size, 4, none⟩ = some (.int .i64 b) ∧ W.cell? ⟨w.heap.size, 5, none⟩ = some (.int .i64 t) ∧ W.cell? ⟨w.heap.size + 3, 3, none⟩ = some (.slice A' ps.length c'))) 13 (by kernel_rfl) (by first | assumption | exact s3 | exact keep7 (by assumption) (by assumption)) (fun hHeld => ?_)
      refine wpAnyF_take (i := 0) (oi := { dst := some 18, op := Op.fieldAddr 31 (Operand.tmp 5) 1, type := 0, pos := "l2_words.go:140", after := #[], guard := none }) (v := ?_) rfl (by kernel_rfl) (by kernel_rfl) (by kernel_rfl) (by kernel_rfl) (fun _ _ _ h => h) (Or.inl ⟨by rfl, ?_⟩) (by assumption) ?_; rotate_left
      · intro W hW; (try dsimp only at hW); go_simp;  try (with_reducible rfl)
      try simp only [Act.put, List.setIfInBounds_toArray, List.set_cons_zero, List.set_cons_succ]
      refine wpAnyF_take (i := 1) (oi := { dst := some 19, op := Op.load 29 (Operand.tmp 18), type := 29, pos := "l2_words.go:140", after := #[{ on := 0, ground := Ground.data }], guard := none }) (v := ?_) rfl (by kernel_rfl) (by kernel_rfl) (by kernel_rfl) (by kernel_rfl) (fun _ _ _ h => h) (Or.inl ⟨by rfl, ?_⟩) (by assumption) ?_; rotate_left
      · intro W hW; (try dsimp only at hW); go_simp;  try (with_reducible rfl)
      try simp only [Act.put, List.setIfInBounds_toArray, List.set_cons_zero, List.set_cons_succ]
      refine wpAnyF_take (i := 2) (oi := { dst := some 20, op := Op.fieldAddr 31 (Operand.tmp 2) 3, type := 0, pos := "l2_words.go:140", after := #[], guard := none }) (v := ?_) rfl (by kernel_rfl) (by kernel_rfl) (by kernel_rfl) (by kernel_rfl) (fun _ _ _ h => h) (Or.inl ⟨by rfl, ?_⟩) (by assumption) ?_; rotate_left
      · intro W hW; (try dsimp only at hW); go_simp;  try (with_reducible rfl)
      try simp only [Act.put, List.setIfInBounds_toArray, List.set_cons_zero, List.set_cons_succ]
      refine wpAnyF_take (i := 3) (oi := { dst := some 21, op := Op.load 3 (Operand.tmp 20), type := 3, pos := "l2_words.go:140", after := #[{ on := 2, ground := Ground.data }], guard := none }) (v := ?_) rfl (by kernel_rfl) (by kernel_rfl) (by kernel_rfl) (by kernel_rfl) (fun _ _ _ h => h) (Or.inl ⟨by rfl, ?_⟩) (by assumption) ?_; rotate_left
      · intro W hW; (try dsimp only at hW); go_simp;  try (with_reducible rfl)
      try simp only [Act.put, List.setIfInBounds_toArray, List.set_cons_zero, List.set_cons_succ]
      refine wpAnyF_take (i := 4) (oi := { dst := some 22, op := Op.load 31 (Operand.tmp 2), type := 31, pos := "l2_words.go:140", after := #[], guard := none }) (v := ?_) rfl (by kernel_rfl) (by kernel_rfl) (by kernel_rfl) (by kernel_rfl) (fun _ _ _ h => h) (Or.inl ⟨by rfl, ?_⟩) (by assumption) ?_; rotate_left
      · intro W hW; (try dsimp only at hW); go_simp;  try (with_reducible rfl)
      try simp only [Act.put, List.setIfInBounds_toArray, List.set_cons_zero, List.set_cons_succ]
      refine wpAnyF_take (i := 5) (oi := { dst := some 23, op := Op.move (Operand.tmp 1), type := 3, pos := "l2_words.go:140", after := #[], guard := none }) (v := ?_) rfl (by kernel_rfl) (by kernel_rfl) (by kernel_rfl) (by kernel_rfl) (fun _ _ _ h => h) (Or.inl ⟨by rfl, ?_⟩) (by assumption) ?_; rotate_left
      · intro W hW; (try dsimp only at hW); go_simp;  try (with_reducible rfl)
      try simp only [Act.put, List.setIfInBounds_toArray, List.set_cons_zero, List.set_cons_succ]
      refine wpAnyF_ready (rs := [6]) (by kernel_rfl) (by simp) (AllReadyF.cons (i := 6) (o := { dst := some 24, op := Op.call { callee := Callee.value (Operand.func 90), args := #[Operand.tmp 22, Operand.tmp 23], argTypes := #[31, 3] }, type := 9, pos := "l2_words.go:140", after := #[{ on := 4, ground := Ground.data }, { on := 5, ground := Ground.data }], guard := none }) rfl (fun K hK => ?_) AllReadyF.nil)
      go_simp
      refine ((unhide CY) _ hHeld.1).mono ?_; rintro e wa ⟨rfl, hb⟩
      have R8 := R7.drew.below hb R7.lt
      have G8 := G7.drew.below hb G7.lt
      have O8 := own_below (w := w7.drew) O7 hb
      try go_wp2_with fail
      refine hK.out _ _ (by (try dsimp only); first | assumption | exact s3 | exact keep7 (by assumption) (by assumption)) (fun hHeld => ?_)
      clear hK K
      try simp only [Act.put, List.setIfInBounds_toArray, List.set_cons_zero, List.set_cons_succ]
      refine wpAnyF_take (i := 7) (oi := { dst := some 25, op := Op.index 9 (Operand.tmp 24) (Operand.const (Value.int IntKind.i64 0)), type := 5, pos := "l2_words.go:140", after := #[{ on := 6, ground := Ground.data }], guard := none }) (v := ?_) rfl (by kernel_rfl) (by kernel_rfl) (by kernel_rfl) (by kernel_rfl) (fun _ _ _ h => h) (Or.inl ⟨by rfl, ?_⟩) (by assumption) ?_; rotate_left
      · intro W hW; (try dsimp only at hW); go_simp;  try (with_reducible rfl)
      try simp only [Act.put, List.setIfInBounds_toArray, List.set_cons_zero, List.set_cons_succ]
      refine wpAnyF_take (i := 8) (oi := { dst := some 26, op := Op.convert 5 3 (Operand.tmp 25), type := 3, pos := "l2_words.go:140", after := #[{ on := 7, ground := Ground.data }], guard := none }) (v := ?_) rfl (by kernel_rfl) (by kernel_rfl) (by kernel_rfl) (by kernel_rfl) (fun _ _ _ h => h) (Or.inl ⟨by rfl, ?_⟩) (by assumption) ?_; rotate_left
      · intro W hW; (try dsimp only at hW); go_simp;  try (with_reducible rfl)
      try simp only [Act.put, List.setIfInBounds_toArray, List.set_cons_zero, List.set_cons_succ]
      refine wpAnyF_take (i := 9) (oi := { dst := some 27, op := Op.build 63 #[(0, Operand.tmp 21), (1, Operand.tmp 26)], type := 63, pos := "l2_words.go:140", after := #[{ on := 3, ground := Ground.data }, { on := 8, ground := Ground.data }], guard := none }) (v := ?_) rfl (by kernel_rfl) (by kernel_rfl) (by kernel_rfl) (by kernel_rfl) (fun _ _ _ h => h) (Or.inl ⟨by rfl, ?_⟩) (by assumption) ?_; rotate_left
      · intro W hW; (try dsimp only at hW); go_simp;  try (with_reducible rfl)
      try simp only [Act.put, List.setIfInBounds_toArray, List.set_cons_zero, List.set_cons_succ]
      refine wpAnyF_ready (rs := [10]) (by kernel_rfl) (by simp) (AllReadyF.cons (i := 10) (o := { dst := some 28, op := Op.buildSlice 29 1 #[(0, Operand.tmp 27)], type := 29, pos := "l2_words.go:140", after := #[{ on := 9, ground := Ground.data }], guard := none }) rfl (fun K hK => ?_) AllReadyF.nil)
      go_simp
      have R9 := R8.alloc (.cells #[.int .i64 t, .int .i64 (Sx.fstB u)] 63)
      have G9 := G8.alloc (.cells #[.int .i64 t, .int .i64 (Sx.fstB u)] 63)
      have O9 := O8.alloc (.cells #[.int .i64 t, .int .i64 (Sx.fstB u)] 63)
      have PN : PR (wa.alloc (.cells #[.int .i64 t, .int .i64 (Sx.fstB u)] 63)) (wa.heap.size + 1) (some ⟨wa.heap.size, 0, none⟩) [(t, Sx.fstB u)] := PR.of_blk (Blk.new wa 63 #[.int .i64 t, .int .i64 (Sx.fstB u)]) (by omega)
      have hwa := R8.lt
      refine hK.out _ _ (by (try dsimp only); first | exact keep7 ((Below.refl _ _).alloc (Nat.le_refl _) _) (by assumption)) (fun hHeld => ?_)
      clear hK K
      try simp only [Act.put, List.setIfInBounds_toArray, List.set_cons_zero, List.set_cons_succ]
      refine wpAnyF_ready (rs := [11]) (by kernel_rfl) (by simp) (AllReadyF.cons (i := 11) (o := { dst := some 29, op := Op.call { callee := Callee.builtin Builtin.append, args := #[Operand.tmp 19, Operand.tmp 28], argTypes := #[29, 29] }, type := 29, pos := "l2_words.go:140", after := #[{ on := 1, ground := Ground.data }, { on := 10, ground := Ground.data }, { on := 6, ground := Ground.chain }], guard := none }) rfl (fun K hK => ?_) AllReadyF.nil)
      refine wp_append_any _ _ _ _ rfl (w.heap.size + 2) 63 i0 (.agg #[.int .i64 0, .int .i64 0]) 2 16 Try.underlying29 hi0 hz0 hz1 hz2 (by rfl) (by decide) (.slice A' ps.length c') ps.length (pvals ps) (by first | rfl | simp [Act.eval]) O9 _ _ 1 1 (pvals [(t, Sx.fstB u)]) (by first | rfl | simp [Act.eval]) PN.reads (pvals_one _) (by simp only [maxLen]; omega) (by omega) (by first | omega | (simp; done) | (simp; omega)) ?_
      intro v' wz hownz hgrow hsh
      rw [← pvals_append] at hownz
      obtain ⟨A2, c2, rfl⟩ := own_shapeN hownz
      have Gz := G9.grown hgrow (own_blk_ne O9 G9 (by decide)).symm
      have Rz := R9.grown hgrow (own_blk_ne O9 R9 (by decide)).symm
      have HK := keepG7 hHeld hgrow (fun e => by have := (O9.lt _ e.symm).1; omega) (own_blk_ne O9 G9 (by decide)).symm (fun k hk => by have := (O9.lt _ hk).1; omega)
      clear hgrow hsh hHeld O9 G9 R9 O8 G8 R8 O7 G7 R7 PN
      refine hK.out _ _ (by (try dsimp only); first | exact HK) (fun hHeld => ?_)
      clear hK K
      try simp only [Act.put, List.setIfInBounds_toArray, List.set_cons_zero, List.set_cons_succ]
      refine wpAnyF_take (i := 12) (oi := { dst := some 30, op := Op.fieldAddr 31 (Operand.tmp 5) 1, type := 0, pos := "l2_words.go:140", after := #[{ on := 0, ground := Ground.phase }, { on := 1, ground := Ground.phase }, { on := 2, ground := Ground.phase }, { on := 3, ground := Ground.phase }, { on := 4, ground := Ground.phase }, { on := 5, ground := Ground.phase }, { on := 6, ground := Ground.phase }, { on := 7, ground := Ground.phase }, { on := 8, ground := Ground.phase }, { on := 9, ground := Ground.phase }, { on := 10, ground := Ground.phase }, { on := 11, ground := Ground.phase }], guard := none }) (v := ?_) rfl (by kernel_rfl) (by kernel_rfl) (by kernel_rfl) (by kernel_rfl) (fun _ _ _ h => h) (Or.inl ⟨by rfl, ?_⟩) (by assumption) ?_; rotate_left
      · intro W hW; (try dsimp only at hW); go_simp;  try (with_reducible rfl)
      try simp only [Act.put, List.setIfInBounds_toArray, List.set_cons_zero, List.set_cons_succ]
      refine wpAnyF_ready (rs := [13]) (by kernel_rfl) (by simp) (AllReadyF.last (o := { dst := none, op := Op.store 29 (Operand.tmp 30) (Operand.tmp 29), type := 0, pos := "l2_words.go:140", after := #[{ on := 12, ground := Ground.data }, { on := 11, ground := Ground.data }, { on := 11, ground := Ground.chain }, { on := 0, ground := Ground.phase }, { on := 1, ground := Ground.phase }, { on := 2, ground := Ground.phase }, { on := 3, ground := Ground.phase }, { on := 4, ground := Ground.phase }, { on := 5, ground := Ground.phase }, { on := 6, ground := Ground.phase }, { on := 7, ground := Ground.phase }, { on := 8, ground := Ground.phase }, { on := 9, ground := Ground.phase }, { on := 10, ground := Ground.phase }, { on := 11, ground := Ground.phase }], guard := none }) rfl (fun K hK => ?_))
      have c3 : wz.cell? ⟨w.heap.size + 3, 3, none⟩ = some (.slice A' ps.length c') := Gz.cell 3
      have f3 := Gz.frozen 3
      have GF := Gz.set_ 3 (.slice A2 (ps.length + 1) c2)
      have RF := Rz.far (p := ⟨w.heap.size + 3, 3, none⟩) (by first | (simp; done) | (simp; omega)) (.slice A2 (ps.length + 1) c2)
      have OF := hownz.kept (only_one wz (w.heap.size + 3) 3 (.slice A2 (ps.length + 1) c2)) (.inr (own_blk_ne hownz Gz (by decide)))
      have BF := belowSet HK.1 (i := 3) (by omega : w.heap.size ≤ (w.heap.size + 3)) (.slice A2 (ps.length + 1) c2)
      go_simp
      clear c3 f3 Gz Rz hownz HK
      refine hK.out _ _ ?_
      clear hK K
      try simp only [Act.put, List.setIfInBounds_toArray, List.set_cons_zero, List.set_cons_succ]
      refine wpAnyF_done (by kernel_rfl) ?_ _
      clear hHeld
      have g0 : (wz.setCell ⟨w.heap.size + 3, 3, none⟩ (.slice A2 (ps.length + 1) c2)).cell? ⟨w.heap.size + 3, 0, none⟩ = some (.int .i64 o) := GF.cell 0
      have g1 : (wz.setCell ⟨w.heap.size + 3, 3, none⟩ (.slice A2 (ps.length + 1) c2)).cell? ⟨w.heap.size + 3, 1, none⟩ = some (.int .i64 l) := GF.cell 1
      have g2 : (wz.setCell ⟨w.heap.size + 3, 3, none⟩ (.slice A2 (ps.length + 1) c2)).cell? ⟨w.heap.size + 3, 2, none⟩ = some (.int .i64 m) := GF.cell 2
      have g3 : (wz.setCell ⟨w.heap.size + 3, 3, none⟩ (.slice A2 (ps.length + 1) c2)).cell? ⟨w.heap.size + 3, 3, none⟩ = some (.slice A2 (ps.length + 1) c2) := GF.cell 3
      have g4 : (wz.setCell ⟨w.heap.size + 3, 3, none⟩ (.slice A2 (ps.length + 1) c2)).cell? ⟨w.heap.size + 3, 4, none⟩ = some (.int .i64 b) := GF.cell 4
      have g5 : (wz.setCell ⟨w.heap.size + 3, 3, none⟩ (.slice A2 (ps.length + 1) c2)).cell? ⟨w.heap.size + 3, 5, none⟩ = some (.int .i64 x) := GF.cell 5
      have r0 : (wz.setCell ⟨w.heap.size + 3, 3, none⟩ (.slice A2 (ps.length + 1) c2)).cell? ⟨(w.heap.size + 1), 0, none⟩ = some (.int .i64 0) := RF.cell 0
      have r1 : (wz.setCell ⟨w.heap.size + 3, 3, none⟩ (.slice A2 (ps.length + 1) c2)).cell? ⟨(w.heap.size + 1), 1, none⟩ = some (.int .i64 0) := RF.cell 1
      have r2 : (wz.setCell ⟨w.heap.size + 3, 3, none⟩ (.slice A2 (ps.length + 1) c2)).cell? ⟨(w.heap.size + 1), 2, none⟩ = some (.int .i64 0) := RF.cell 2
      have r3 : (wz.setCell ⟨w.heap.size + 3, 3, none⟩ (.slice A2 (ps.length + 1) c2)).cell? ⟨(w.heap.size + 1), 3, none⟩ = some (.slice none 0 0) := RF.cell 3
      have r4 : (wz.setCell ⟨w.heap.size + 3, 3, none⟩ (.slice A2 (ps.length + 1) c2)).cell? ⟨(w.heap.size + 1), 4, none⟩ = some (.int .i64 0) := RF.cell 4
      have r5 : (wz.setCell ⟨w.heap.size + 3, 3, none⟩ (.slice A2 (ps.length + 1) c2)).cell? ⟨(w.heap.size + 1), 5, none⟩ = some (.int .i64 0) := RF.cell 5
      have fr0 := RF.frozen 0
      have fr1 := RF.frozen 1
      have fr2 := RF.frozen 2
      have fr3 := RF.frozen 3
      have fr4 := RF.frozen 4
      have fr5 := RF.frozen 5
      go_wp2_with fail
      have q := blk6_set RF (.int .i64 o) (.int .i64 l) (.int .i64 m) (.slice A2 (ps.length + 1) c2) (.int .i64 b) (.int .i64 x)
      have OV := OF.kept (only6 _ (w.heap.size + 1) (.int .i64 o) (.int .i64 l) (.int .i64 m) (.slice A2 (ps.length + 1) c2) (.int .i64 b) (.int .i64 x)) (.inr (own_blk_ne OF RF (by decide)))
      have BV := below_set6 (g := w.heap.size + 1) BF (by omega) (.int .i64 o) (.int .i64 l) (.int .i64 m) (.slice A2 (ps.length + 1) c2) (.int .i64 b) (.int .i64 x)
      have q0 := q.cell 0
      have q1 := q.cell 1
      have q2 := q.cell 2
      have q3 := q.cell 3
      have q4 := q.cell 4
      have q5 := q.cell 5
      exact bodyPost_ret (v := kv o l m A2 (ps.length + 1) c2 b x) (by simp [results, Try.results101, go_sem, q0, q1, q2, q3, q4, q5]) rfl ⟨A2, c2, by rw [HP.out, hl1], by rw [HP.out]; exact OwnP.of_own hl1 (own_base OV (by omega)), by rw [HP.out, hl1]; exact own_cap OV, BV⟩
  · skip
    go_simp
    have hrl0 := R0.lt
    have R1 := R0.alloc (.cells #[.int .i64 0, .int .i64 0, .int .i64 0, .slice none 0 0, .int .i64 0, .int .i64 0] 31)
    have K1 := K0.alloc (.cells #[.int .i64 0, .int .i64 0, .int .i64 0, .slice none 0 0, .int .i64 0, .int .i64 0] 31)
    have G1 := blk_newN ((w.alloc (.cells #[.int .i64 o, .int .i64 l, .int .i64 m, .slice A ps.length c, .int .i64 b, .int .i64 t] 31)).alloc (.cells #[.int .i64 0, .int .i64 0, .int .i64 0, .slice none 0 0, .int .i64 0, .int .i64 0] 31)).drew 31 #[.int .i64 0, .int .i64 0, .int .i64 0, .slice none 0 0, .int .i64 0, .int .i64 0] (w.heap.size + 2) (by first | rfl | (simp; done))
    have P1 := P0.alloc (by first | omega | (simp; done) | (simp; omega)) (.cells #[.int .i64 0, .int .i64 0, .int .i64 0, .slice none 0 0, .int .i64 0, .int .i64 0] 31)
    refine hK.out _ _ (by (try dsimp only); first | exact keep6 ((Below.refl _ _).alloc (Nat.le_refl _) _) (by assumption)) (fun hHeld => ?_)
    clear hK K
    try simp only [Act.put, List.setIfInBounds_toArray, List.set_cons_zero, List.set_cons_succ]
    refine wpAnyF_ready (rs := [2]) (by kernel_rfl) (by simp) (AllReadyF.cons (i := 2) (o := { dst := some 8, op := Op.buildSlice 29 0 #[], type := 29, pos := "l2_words.go:138", after := #[], guard := none }) rfl (fun K hK => ?_) AllReadyF.nil)
    go_simp
    have R2 := R1.alloc (.cells #[] 63)
    have K2 := K1.alloc (.cells #[] 63)
    have G2 := G1.alloc (.cells #[] 63)
    have O2 := own_base (own_emptyP (((w.alloc (.cells #[.int .i64 o, .int .i64 l, .int .i64 m, .slice A ps.length c, .int .i64 b, .int .i64 t] 31)).alloc (.cells #[.int .i64 0, .int .i64 0, .int .i64 0, .slice none 0 0, .int .i64 0, .int .i64 0] 31)).drew.alloc (.cells #[.int .i64 0, .int .i64 0, .int .i64 0, .slice none 0 0, .int .i64 0, .int .i64 0] 31)) 63 2 (w.heap.size + 3) (by first | rfl | (simp; done))) (by omega : w.heap.size + 2 ≤ (w.heap.size + 3))
    have P2 := P1.alloc (by first | omega | (simp; done) | (simp; omega)) (.cells #[] 63)
    refine hK.out _ _ (by (try dsimp only); first | exact keep6 ((Below.refl _ _).alloc (Nat.le_refl _) _) (by assumption)) (fun hHeld => ?_)
    clear hK K
    try simp only [Act.put, List.setIfInBounds_toArray, List.set_cons_zero, List.set_cons_succ]
    refine wpAnyF_ready (rs := [5]) (by kernel_rfl) (by simp) (AllReadyF.cons (i := 5) (o := { dst := some 11, op := Op.call { callee := Callee.builtin Builtin.append, args := #[Operand.tmp 8, Operand.tmp 10], argTypes := #[29, 29] }, type := 29, pos := "l2_words.go:138", after := #[{ on := 2, ground := Ground.data }, { on := 4, ground := Ground.data }], guard := none }) rfl (fun K hK => ?_) AllReadyF.nil)
    refine wp_append_any _ _ _ _ rfl (w.heap.size + 2) 63 i0 (.agg #[.int .i64 0, .int .i64 0]) 2 16 Try.underlying29 hi0 hz0 hz1 hz2 (by rfl) (by decide) (.slice (some ⟨w.heap.size + 3, 0, none⟩) 0 0) 0 [] (by first | rfl | simp [Act.eval]) O2 _ A ps.length c (pvals ps) (by first | rfl | simp [Act.eval]) P2 (pvals_one _) (by simp only [maxLen]; omega) (by omega) (by first | omega | (simp; done) | (simp; omega)) ?_
    intro v' w9 hown9 hgrow hsh
    rw [Nat.zero_add, List.nil_append] at hown9
    obtain ⟨A', c', rfl⟩ := own_shapeN hown9
    have hl9 := hown9.lt
    have R3 := R2.grown hgrow (by simp [Value.ownBlock])
    have K3 := K2.grown hgrow (by simp [Value.ownBlock]; try omega)
    have G3 := G2.grown hgrow (by simp [Value.ownBlock])
    have O3 := hown9
    have HK := keepG6' hHeld hgrow (by simp [Value.ownBlock]; try omega) (by simp [Value.ownBlock]; try omega)
    clear hgrow hsh hHeld
    refine hK.out _ _ (by (try dsimp only); first | exact HK) (fun hHeld => ?_)
    clear hK K
    try simp only [Act.put, List.setIfInBounds_toArray, List.set_cons_zero, List.set_cons_succ]
    refine wpAnyF_take (i := 9) (oi := { dst := some 15, op := Op.build 31 #[(0, Operand.tmp 7), (1, Operand.tmp 11), (2, Operand.tmp 13), (3, Operand.tmp 14)], type := 31, pos := "l2_words.go:138", after := #[{ on := 1, ground := Ground.data }, { on := 5, ground := Ground.data }, { on := 7, ground := Ground.data }, { on := 8, ground := Ground.data }], guard := none }) (v := ?_) rfl (by kernel_rfl) (by kernel_rfl) (by kernel_rfl) (by kernel_rfl) (fun _ _ _ h => h) (Or.inl ⟨by rfl, ?_⟩) (by assumption) ?_; rotate_left
    · intro W hW; (try dsimp only at hW); go_simp;  try (with_reducible rfl)
    try simp only [Act.put, List.setIfInBounds_toArray, List.set_cons_zero, List.set_cons_succ]
    refine wpAnyF_ready (rs := [11]) (by kernel_rfl) (by simp) (AllReadyF.last (o := { dst := none, op := Op.store 31 (Operand.tmp 5) (Operand.tmp 15), type := 0, pos := "l2_words.go:138", after := #[{ on := 10, ground := Ground.data }, { on := 9, ground := Ground.data }, { on := 5, ground := Ground.chain }, { on := 0, ground := Ground.phase }, { on := 1, ground := Ground.phase }, { on := 2, ground := Ground.phase }, { on := 3, ground := Ground.phase }, { on := 4, ground := Ground.phase }, { on := 5, ground := Ground.phase }, { on := 6, ground := Ground.phase }, { on := 7, ground := Ground.phase }, { on := 8, ground := Ground.phase }, { on := 9, ground := Ground.phase }, { on := 10, ground := Ground.phase }], guard := none }) rfl (fun K hK => ?_))
    have c0 : w9.cell? ⟨(w.heap.size + 2), 0, none⟩ = some (.int .i64 0) := G3.cell 0
    have c1 : w9.cell? ⟨(w.heap.size + 2), 1, none⟩ = some (.int .i64 0) := G3.cell 1
    have c2 : w9.cell? ⟨(w.heap.size + 2), 2, none⟩ = some (.int .i64 0) := G3.cell 2
    have c3 : w9.cell? ⟨(w.heap.size + 2), 3, none⟩ = some (.slice none 0 0) := G3.cell 3
    have c4 : w9.cell? ⟨(w.heap.size + 2), 4, none⟩ = some (.int .i64 0) := G3.cell 4
    have c5 : w9.cell? ⟨(w.heap.size + 2), 5, none⟩ = some (.int .i64 0) := G3.cell 5
    have fc0 := G3.frozen 0
    have fc1 := G3.frozen 1
    have fc2 := G3.frozen 2
    have fc3 := G3.frozen 3
    have fc4 := G3.frozen 4
    have fc5 := G3.frozen 5
    have hge : w.heap.size + 2 ≤ (w.heap.size + 2) := by first | omega | (have := R3.lt; omega)
    have hrl := R3.lt
    have KW := K3.far6 (g := (w.heap.size + 2)) (by omega) (.int .i64 o) (.int .i64 l) (.int .i64 m) (.slice A' ps.length c') (.int .i64 b) (.int .i64 x)
    have RW := R3.far6 (g := (w.heap.size + 2)) (by omega) (.int .i64 o) (.int .i64 l) (.int .i64 m) (.slice A' ps.length c') (.int .i64 b) (.int .i64 x)
    have GW := blk6_set G3 (.int .i64 o) (.int .i64 l) (.int .i64 m) (.slice A' ps.length c') (.int .i64 b) (.int .i64 x)
    have BW := below_set6 (g := (w.heap.size + 2)) hHeld.1 (by omega) (.int .i64 o) (.int .i64 l) (.int .i64 m) (.slice A' ps.length c') (.int .i64 b) (.int .i64 x)
    have OW := O3.kept (only6 w9 (w.heap.size + 2) (.int .i64 o) (.int .i64 l) (.int .i64 m) (.slice A' ps.length c') (.int .i64 b) (.int .i64 x)) (.inr (own_blk_ne O3 G3 (by decide)))
    go_simp
    clear c0 fc0 c1 fc1 c2 fc2 c3 fc3 c4 fc4 c5 fc5 K3 R3 G3 O3
    refine hK.out _ _ ?_
    clear hK K
    try simp only [Act.put, List.setIfInBounds_toArray, List.set_cons_zero, List.set_cons_succ]
    refine wpAnyF_done (by kernel_rfl) ?_ _
    have a0 : ((((((w9.setCell ⟨w.heap.size + 2, 0, none⟩ (.int .i64 o)).setCell ⟨w.heap.size + 2, 1, none⟩ (.int .i64 l)).setCell ⟨w.heap.size + 2, 2, none⟩ (.int .i64 m)).setCell ⟨w.heap.size + 2, 3, none⟩ (.slice A' ps.length c')).setCell ⟨w.heap.size + 2, 4, none⟩ (.int .i64 b)).setCell ⟨w.heap.size + 2, 5, none⟩ (.int .i64 x)).cell? ⟨w.heap.size, 0, none⟩ = some (.int .i64 o) := KW.cell 0
    have a1 : ((((((w9.setCell ⟨w.heap.size + 2, 0, none⟩ (.int .i64 o)).setCell ⟨w.heap.size + 2, 1, none⟩ (.int .i64 l)).setCell ⟨w.heap.size + 2, 2, none⟩ (.int .i64 m)).setCell ⟨w.heap.size + 2, 3, none⟩ (.slice A' ps.length c')).setCell ⟨w.heap.size + 2, 4, none⟩ (.int .i64 b)).setCell ⟨w.heap.size + 2, 5, none⟩ (.int .i64 x)).cell? ⟨w.heap.size, 1, none⟩ = some (.int .i64 l) := KW.cell 1
    have a2 : ((((((w9.setCell ⟨w.heap.size + 2, 0, none⟩ (.int .i64 o)).setCell ⟨w.heap.size + 2, 1, none⟩ (.int .i64 l)).setCell ⟨w.heap.size + 2, 2, none⟩ (.int .i64 m)).setCell ⟨w.heap.size + 2, 3, none⟩ (.slice A' ps.length c')).setCell ⟨w.heap.size + 2, 4, none⟩ (.int .i64 b)).setCell ⟨w.heap.size + 2, 5, none⟩ (.int .i64 x)).cell? ⟨w.heap.size, 2, none⟩ = some (.int .i64 m) := KW.cell 2
    have a3 : ((((((w9.setCell ⟨w.heap.size + 2, 0, none⟩ (.int .i64 o)).setCell ⟨w.heap.size + 2, 1, none⟩ (.int .i64 l)).setCell ⟨w.heap.size + 2, 2, none⟩ (.int .i64 m)).setCell ⟨w.heap.size + 2, 3, none⟩ (.slice A' ps.length c')).setCell ⟨w.heap.size + 2, 4, none⟩ (.int .i64 b)).setCell ⟨w.heap.size + 2, 5, none⟩ (.int .i64 x)).cell? ⟨w.heap.size, 3, none⟩ = some (.slice A ps.length c) := KW.cell 3
    have a4 : ((((((w9.setCell ⟨w.heap.size + 2, 0, none⟩ (.int .i64 o)).setCell ⟨w.heap.size + 2, 1, none⟩ (.int .i64 l)).setCell ⟨w.heap.size + 2, 2, none⟩ (.int .i64 m)).setCell ⟨w.heap.size + 2, 3, none⟩ (.slice A' ps.length c')).setCell ⟨w.heap.size + 2, 4, none⟩ (.int .i64 b)).setCell ⟨w.heap.size + 2, 5, none⟩ (.int .i64 x)).cell? ⟨w.heap.size, 4, none⟩ = some (.int .i64 b) := KW.cell 4
    have a5 : ((((((w9.setCell ⟨w.heap.size + 2, 0, none⟩ (.int .i64 o)).setCell ⟨w.heap.size + 2, 1, none⟩ (.int .i64 l)).setCell ⟨w.heap.size + 2, 2, none⟩ (.int .i64 m)).setCell ⟨w.heap.size + 2, 3, none⟩ (.slice A' ps.length c')).setCell ⟨w.heap.size + 2, 4, none⟩ (.int .i64 b)).setCell ⟨w.heap.size + 2, 5, none⟩ (.int .i64 x)).cell? ⟨w.heap.size, 5, none⟩ = some (.int .i64 t) := KW.cell 5
    go_wp2_with fail
    refine ((unhide CG) _).mono ?_; rintro e w7 ⟨rfl, hb7⟩
    have K7 := KW.below hb7 KW.lt
    have R7 := RW.below hb7 RW.lt
    have G7 := GW.below hb7 GW.lt
    have O7 := own_below OW hb7
    have B7 := below_next (Nat.le_refl _) BW hb7
    clear RW KW GW OW BW hb7 a0 a1 a2 a3 a4 a5
    have s3 : Below w.heap.size w w7.drew ∧ w7.drew.cell? ⟨w.heap.size, 0, none⟩ = some (.int .i64 o) ∧ w7.drew.cell? ⟨w.heap.size, 1, none⟩ = some (.int .i64 l) ∧ w7.drew.cell? ⟨w.heap.size, 2, none⟩ = some (.int .i64 m) ∧ w7.drew.cell? ⟨w.heap.size, 3, none⟩ = some (.slice A ps.length c) ∧ w7.drew.cell? ⟨w.heap.size, 4, none⟩ = some (.int .i64 b) ∧ w7.drew.cell? ⟨w.heap.size, 5, none⟩ = some (.int .i64 t) ∧ w7.drew.cell? ⟨w.heap.size + 2, 3, none⟩ = some (.slice A' ps.length c') := ⟨B7.drew, K7.cell 0, K7.cell 1, K7.cell 2, K7.cell 3, K7.cell 4, K7.cell 5, G7.cell 3⟩
    clear K7 B7
    go_wp2_with fail
    refine wp_region_final_drew (S := (fun W => Below w.heap.size w W ∧ W.cell? ⟨w.heap.size, 0, none⟩ = some (.int .i64 o) ∧ W.cell? ⟨w.heap.size, 1, none⟩ = some (.int .i64 l) ∧ W.cell? ⟨w.heap.size, 2, none⟩ = some (.int .i64 m) ∧ W.cell? ⟨w.heap.size, 3, none⟩ = some (.slice A ps.length c) ∧ W.cell? ⟨w.heap.size, 4, none⟩ = some (.int .i64 b) ∧ W.cell? ⟨w.heap.size, 5, none⟩ = some (.int .i64 t) ∧ W.cell? ⟨w.heap.size + 2, 3, none⟩ = some (.slice A' ps.length c'))) 13 (by kernel_rfl) (by first | assumption | exact s3 | exact keep7 (by assumption) (by assumption)) (fun hHeld => ?_)
    refine wpAnyF_take (i := 0) (oi := { dst := some 18, op := Op.fieldAddr 31 (Operand.tmp 5) 1, type := 0, pos := "l2_words.go:140", after := #[], guard := none }) (v := ?_) rfl (by kernel_rfl) (by kernel_rfl) (by kernel_rfl) (by kernel_rfl) (fun _ _ _ h => h) (Or.inl ⟨by rfl, ?_⟩) (by assumption) ?_; rotate_left
    · intro W hW; (try dsimp only at hW); go_simp;  try (with_reducible rfl)
    try simp only [Act.put, List.setIfInBounds_toArray, List.set_cons_zero, List.set_cons_succ]
    refine wpAnyF_take (i := 1) (oi := { dst := some 19, op := Op.load 29 (Operand.tmp 18), type := 29, pos := "l2_words.go:140", after := #[{ on := 0, ground := Ground.data }], guard := none }) (v := ?_) rfl (by kernel_rfl) (by kernel_rfl) (by kernel_rfl) (by kernel_rfl) (fun _ _ _ h => h) (Or.inl ⟨by rfl, ?_⟩) (by assumption) ?_; rotate_left
    · intro W hW; (try dsimp only at hW); go_simp;  try (with_reducible rfl)
    try simp only [Act.put, List.setIfInBounds_toArray, List.set_cons_zero, List.set_cons_succ]
    refine wpAnyF_take (i := 2) (oi := { dst := some 20, op := Op.fieldAddr 31 (Operand.tmp 2) 3, type := 0, pos := "l2_words.go:140", after := #[], guard := none }) (v := ?_) rfl (by kernel_rfl) (by kernel_rfl) (by kernel_rfl) (by kernel_rfl) (fun _ _ _ h => h) (Or.inl ⟨by rfl, ?_⟩) (by assumption) ?_; rotate_left
    · intro W hW; (try dsimp only at hW); go_simp;  try (with_reducible rfl)
    try simp only [Act.put, List.setIfInBounds_toArray, List.set_cons_zero, List.set_cons_succ]
    refine wpAnyF_take (i := 3) (oi := { dst := some 21, op := Op.load 3 (Operand.tmp 20), type := 3, pos := "l2_words.go:140", after := #[{ on := 2, ground := Ground.data }], guard := none }) (v := ?_) rfl (by kernel_rfl) (by kernel_rfl) (by kernel_rfl) (by kernel_rfl) (fun _ _ _ h => h) (Or.inl ⟨by rfl, ?_⟩) (by assumption) ?_; rotate_left
    · intro W hW; (try dsimp only at hW); go_simp;  try (with_reducible rfl)
    try simp only [Act.put, List.setIfInBounds_toArray, List.set_cons_zero, List.set_cons_succ]
    refine wpAnyF_take (i := 4) (oi := { dst := some 22, op := Op.load 31 (Operand.tmp 2), type := 31, pos := "l2_words.go:140", after := #[], guard := none }) (v := ?_) rfl (by kernel_rfl) (by kernel_rfl) (by kernel_rfl) (by kernel_rfl) (fun _ _ _ h => h) (Or.inl ⟨by rfl, ?_⟩) (by assumption) ?_; rotate_left
    · intro W hW; (try dsimp only at hW); go_simp;  try (with_reducible rfl)
    try simp only [Act.put, List.setIfInBounds_toArray, List.set_cons_zero, List.set_cons_succ]
    refine wpAnyF_take (i := 5) (oi := { dst := some 23, op := Op.move (Operand.tmp 1), type := 3, pos := "l2_words.go:140", after := #[], guard := none }) (v := ?_) rfl (by kernel_rfl) (by kernel_rfl) (by kernel_rfl) (by kernel_rfl) (fun _ _ _ h => h) (Or.inl ⟨by rfl, ?_⟩) (by assumption) ?_; rotate_left
    · intro W hW; (try dsimp only at hW); go_simp;  try (with_reducible rfl)
    try simp only [Act.put, List.setIfInBounds_toArray, List.set_cons_zero, List.set_cons_succ]
    refine wpAnyF_ready (rs := [6]) (by kernel_rfl) (by simp) (AllReadyF.cons (i := 6) (o := { dst := some 24, op := Op.call { callee := Callee.value (Operand.func 90), args := #[Operand.tmp 22, Operand.tmp 23], argTypes := #[31, 3] }, type := 9, pos := "l2_words.go:140", after := #[{ on := 4, ground := Ground.data }, { on := 5, ground := Ground.data }], guard := none }) rfl (fun K hK => ?_) AllReadyF.nil)
    go_simp
    refine ((unhide CY) _ hHeld.1).mono ?_; rintro e wa ⟨rfl, hb⟩
    have R8 := R7.drew.below hb R7.lt
    have G8 := G7.drew.below hb G7.lt
    have O8 := own_below (w := w7.drew) O7 hb
    try go_wp2_with fail
    refine hK.out _ _ (by (try dsimp only); first | assumption | exact s3 | exact keep7 (by assumption) (by assumption)) (fun hHeld => ?_)
    clear hK K
    try simp only [Act.put, List.setIfInBounds_toArray, List.set_cons_zero, List.set_cons_succ]
    refine wpAnyF_take (i := 7) (oi := { dst := some 25, op := Op.index 9 (Operand.tmp 24) (Operand.const (Value.int IntKind.i64 0)), type := 5, pos := "l2_words.go:140", after := #[{ on := 6, ground := Ground.data }], guard := none }) (v := ?_) rfl (by kernel_rfl) (by kernel_rfl) (by kernel_rfl) (by kernel_rfl) (fun _ _ _ h => h) (Or.inl ⟨by rfl, ?_⟩) (by assumption) ?_; rotate_left
    · intro W hW; (try dsimp only at hW); go_simp;  try (with_reducible rfl)
    try simp only [Act.put, List.setIfInBounds_toArray, List.set_cons_zero, List.set_cons_succ]
    refine wpAnyF_take (i := 8) (oi := { dst := some 26, op := Op.convert 5 3 (Operand.tmp 25), type := 3, pos := "l2_words.go:140", after := #[{ on := 7, ground := Ground.data }], guard := none }) (v := ?_) rfl (by kernel_rfl) (by kernel_rfl) (by kernel_rfl) (by kernel_rfl) (fun _ _ _ h => h) (Or.inl ⟨by rfl, ?_⟩) (by assumption) ?_; rotate_left
    · intro W hW; (try dsimp only at hW); go_simp;  try (with_reducible rfl)
    try simp only [Act.put, List.setIfInBounds_toArray, List.set_cons_zero, List.set_cons_succ]
    refine wpAnyF_take (i := 9) (oi := { dst := some 27, op := Op.build 63 #[(0, Operand.tmp 21), (1, Operand.tmp 26)], type := 63, pos := "l2_words.go:140", after := #[{ on := 3, ground := Ground.data }, { on := 8, ground := Ground.data }], guard := none }) (v := ?_) rfl (by kernel_rfl) (by kernel_rfl) (by kernel_rfl) (by kernel_rfl) (fun _ _ _ h => h) (Or.inl ⟨by rfl, ?_⟩) (by assumption) ?_; rotate_left
    · intro W hW; (try dsimp only at hW); go_simp;  try (with_reducible rfl)
    try simp only [Act.put, List.setIfInBounds_toArray, List.set_cons_zero, List.set_cons_succ]
    refine wpAnyF_ready (rs := [10]) (by kernel_rfl) (by simp) (AllReadyF.cons (i := 10) (o := { dst := some 28, op := Op.buildSlice 29 1 #[(0, Operand.tmp 27)], type := 29, pos := "l2_words.go:140", after := #[{ on := 9, ground := Ground.data }], guard := none }) rfl (fun K hK => ?_) AllReadyF.nil)
    go_simp
    have R9 := R8.alloc (.cells #[.int .i64 t, .int .i64 (Sx.fstB u)] 63)
    have G9 := G8.alloc (.cells #[.int .i64 t, .int .i64 (Sx.fstB u)] 63)
    have O9 := O8.alloc (.cells #[.int .i64 t, .int .i64 (Sx.fstB u)] 63)
    have PN : PR (wa.alloc (.cells #[.int .i64 t, .int .i64 (Sx.fstB u)] 63)) (wa.heap.size + 1) (some ⟨wa.heap.size, 0, none⟩) [(t, Sx.fstB u)] := PR.of_blk (Blk.new wa 63 #[.int .i64 t, .int .i64 (Sx.fstB u)]) (by omega)
    have hwa := R8.lt
    refine hK.out _ _ (by (try dsimp only); first | exact keep7 ((Below.refl _ _).alloc (Nat.le_refl _) _) (by assumption)) (fun hHeld => ?_)
    clear hK K
    try simp only [Act.put, List.setIfInBounds_toArray, List.set_cons_zero, List.set_cons_succ]
    refine wpAnyF_ready (rs := [11]) (by kernel_rfl) (by simp) (AllReadyF.cons (i := 11) (o := { dst := some 29, op := Op.call { callee := Callee.builtin Builtin.append, args := #[Operand.tmp 19, Operand.tmp 28], argTypes := #[29, 29] }, type := 29, pos := "l2_words.go:140", after := #[{ on := 1, ground := Ground.data }, { on := 10, ground := Ground.data }, { on := 6, ground := Ground.chain }], guard := none }) rfl (fun K hK => ?_) AllReadyF.nil)
    refine wp_append_any _ _ _ _ rfl (w.heap.size + 2) 63 i0 (.agg #[.int .i64 0, .int .i64 0]) 2 16 Try.underlying29 hi0 hz0 hz1 hz2 (by rfl) (by decide) (.slice A' ps.length c') ps.length (pvals ps) (by first | rfl | simp [Act.eval]) O9 _ _ 1 1 (pvals [(t, Sx.fstB u)]) (by first | rfl | simp [Act.eval]) PN.reads (pvals_one _) (by simp only [maxLen]; omega) (by omega) (by first | omega | (simp; done) | (simp; omega)) ?_
    intro v' wz hownz hgrow hsh
    rw [← pvals_append] at hownz
    obtain ⟨A2, c2, rfl⟩ := own_shapeN hownz
    have Gz := G9.grown hgrow (own_blk_ne O9 G9 (by decide)).symm
    have Rz := R9.grown hgrow (own_blk_ne O9 R9 (by decide)).symm
    have HK := keepG7 hHeld hgrow (fun e => by have := (O9.lt _ e.symm).1; omega) (own_blk_ne O9 G9 (by decide)).symm (fun k hk => by have := (O9.lt _ hk).1; omega)
    clear hgrow hsh hHeld O9 G9 R9 O8 G8 R8 O7 G7 R7 PN
    refine hK.out _ _ (by (try dsimp only); first | exact HK) (fun hHeld => ?_)
    clear hK K
    try simp only [Act.put, List.setIfInBounds_toArray, List.set_cons_zero, List.set_cons_succ]
    refine wpAnyF_take (i := 12) (oi := { dst := some 30, op := Op.fieldAddr 31 (Operand.tmp 5) 1, type := 0, pos := "l2_words.go:140", after := #[{ on := 0, ground := Ground.phase }, { on := 1, ground := Ground.phase }, { on := 2, ground := Ground.phase }, { on := 3, ground := Ground.phase }, { on := 4, ground := Ground.phase }, { on := 5, ground := Ground.phase }, { on := 6, ground := Ground.phase }, { on := 7, ground := Ground.phase }, { on := 8, ground := Ground.phase }, { on := 9, ground := Ground.phase }, { on := 10, ground := Ground.phase }, { on := 11, ground := Ground.phase }], guard := none }) (v := ?_) rfl (by kernel_rfl) (by kernel_rfl) (by kernel_rfl) (by kernel_rfl) (fun _ _ _ h => h) (Or.inl ⟨by rfl, ?_⟩) (by assumption) ?_; rotate_left
    · intro W hW; (try dsimp only at hW); go_simp;  try (with_reducible rfl)
    try simp only [Act.put, List.setIfInBounds_toArray, List.set_cons_zero, List.set_cons_succ]
    refine wpAnyF_ready (rs := [13]) (by kernel_rfl) (by simp) (AllReadyF.last (o := { dst := none, op := Op.store 29 (Operand.tmp 30) (Operand.tmp 29), type := 0, pos := "l2_words.go:140", after := #[{ on := 12, ground := Ground.data }, { on := 11, ground := Ground.data }, { on := 11, ground := Ground.chain }, { on := 0, ground := Ground.phase }, { on := 1, ground := Ground.phase }, { on := 2, ground := Ground.phase }, { on := 3, ground := Ground.phase }, { on := 4, ground := Ground.phase }, { on := 5, ground := Ground.phase }, { on := 6, ground := Ground.phase }, { on := 7, ground := Ground.phase }, { on := 8, ground := Ground.phase }, { on := 9, ground := Ground.phase }, { on := 10, ground := Ground.phase }, { on := 11, ground := Ground.phase }], guard := none }) rfl (fun K hK => ?_))
    have c3 : wz.cell? ⟨w.heap.size + 2, 3, none⟩ = some (.slice A' ps.length c') := Gz.cell 3
    have f3 := Gz.frozen 3
    have GF := Gz.set_ 3 (.slice A2 (ps.length + 1) c2)
    have RF := Rz.far (p := ⟨w.heap.size + 2, 3, none⟩) (by first | (simp; done) | (simp; omega)) (.slice A2 (ps.length + 1) c2)
    have OF := hownz.kept (only_one wz (w.heap.size + 2) 3 (.slice A2 (ps.length + 1) c2)) (.inr (own_blk_ne hownz Gz (by decide)))
    have BF := belowSet HK.1 (i := 3) (by omega : w.heap.size ≤ (w.heap.size + 2)) (.slice A2 (ps.length + 1) c2)
    go_simp
    clear c3 f3 Gz Rz hownz HK
    refine hK.out _ _ ?_
    clear hK K
    try simp only [Act.put, List.setIfInBounds_toArray, List.set_cons_zero, List.set_cons_succ]
    refine wpAnyF_done (by kernel_rfl) ?_ _
    clear hHeld
    have g0 : (wz.setCell ⟨w.heap.size + 2, 3, none⟩ (.slice A2 (ps.length + 1) c2)).cell? ⟨w.heap.size + 2, 0, none⟩ = some (.int .i64 o) := GF.cell 0
    have g1 : (wz.setCell ⟨w.heap.size + 2, 3, none⟩ (.slice A2 (ps.length + 1) c2)).cell? ⟨w.heap.size + 2, 1, none⟩ = some (.int .i64 l) := GF.cell 1
    have g2 : (wz.setCell ⟨w.heap.size + 2, 3, none⟩ (.slice A2 (ps.length + 1) c2)).cell? ⟨w.heap.size + 2, 2, none⟩ = some (.int .i64 m) := GF.cell 2
    have g3 : (wz.setCell ⟨w.heap.size + 2, 3, none⟩ (.slice A2 (ps.length + 1) c2)).cell? ⟨w.heap.size + 2, 3, none⟩ = some (.slice A2 (ps.length + 1) c2) := GF.cell 3
    have g4 : (wz.setCell ⟨w.heap.size + 2, 3, none⟩ (.slice A2 (ps.length + 1) c2)).cell? ⟨w.heap.size + 2, 4, none⟩ = some (.int .i64 b) := GF.cell 4
    have g5 : (wz.setCell ⟨w.heap.size + 2, 3, none⟩ (.slice A2 (ps.length + 1) c2)).cell? ⟨w.heap.size + 2, 5, none⟩ = some (.int .i64 x) := GF.cell 5
    have r0 : (wz.setCell ⟨w.heap.size + 2, 3, none⟩ (.slice A2 (ps.length + 1) c2)).cell? ⟨(w.heap.size + 1), 0, none⟩ = some (.int .i64 0) := RF.cell 0
    have r1 : (wz.setCell ⟨w.heap.size + 2, 3, none⟩ (.slice A2 (ps.length + 1) c2)).cell? ⟨(w.heap.size + 1), 1, none⟩ = some (.int .i64 0) := RF.cell 1
    have r2 : (wz.setCell ⟨w.heap.size + 2, 3, none⟩ (.slice A2 (ps.length + 1) c2)).cell? ⟨(w.heap.size + 1), 2, none⟩ = some (.int .i64 0) := RF.cell 2
    have r3 : (wz.setCell ⟨w.heap.size + 2, 3, none⟩ (.slice A2 (ps.length + 1) c2)).cell? ⟨(w.heap.size + 1), 3, none⟩ = some (.slice none 0 0) := RF.cell 3
    have r4 : (wz.setCell ⟨w.heap.size + 2, 3, none⟩ (.slice A2 (ps.length + 1) c2)).cell? ⟨(w.heap.size + 1), 4, none⟩ = some (.int .i64 0) := RF.cell 4
    have r5 : (wz.setCell ⟨w.heap.size + 2, 3, none⟩ (.slice A2 (ps.length + 1) c2)).cell? ⟨(w.heap.size + 1), 5, none⟩ = some (.int .i64 0) := RF.cell 5
    have fr0 := RF.frozen 0
    have fr1 := RF.frozen 1
    have fr2 := RF.frozen 2
    have fr3 := RF.frozen 3
    have fr4 := RF.frozen 4
    have fr5 := RF.frozen 5
    go_wp2_with fail
    have q := blk6_set RF (.int .i64 o) (.int .i64 l) (.int .i64 m) (.slice A2 (ps.length + 1) c2) (.int .i64 b) (.int .i64 x)
    have OV := OF.kept (only6 _ (w.heap.size + 1) (.int .i64 o) (.int .i64 l) (.int .i64 m) (.slice A2 (ps.length + 1) c2) (.int .i64 b) (.int .i64 x)) (.inr (own_blk_ne OF RF (by decide)))
    have BV := below_set6 (g := w.heap.size + 1) BF (by omega) (.int .i64 o) (.int .i64 l) (.int .i64 m) (.slice A2 (ps.length + 1) c2) (.int .i64 b) (.int .i64 x)
    have q0 := q.cell 0
    have q1 := q.cell 1
    have q2 := q.cell 2
    have q3 := q.cell 3
    have q4 := q.cell 4
    have q5 := q.cell 5
    exact bodyPost_ret (v := kv o l m A2 (ps.length + 1) c2 b x) (by simp [results, Try.results101, go_sem, q0, q1, q2, q3, q4, q5]) rfl ⟨A2, c2, by rw [HP.out, hl1], by rw [HP.out]; exact OwnP.of_own hl1 (own_base OV (by omega)), by rw [HP.out, hl1]; exact own_cap OV, BV⟩
set_option maxRecDepth 100000 in
set_option maxHeartbeats 2000000 in
theorem spec_l2After (o l m : Int) (A : Option Addr) (c : Nat) (b t x : Int) (ps : List (Int × Int)) (w : World) (hr : PR w w.heap.size A ps) (hk : Sx.kOK o l m ps b t = true) (hc : Sx.canB l m ps.length t x = true) :
    Calls Try.prog 101 #[kv o l m A ps.length c b t, .int .i64 x] w fun e w' => ∃ A' c', e = .returned (kv o l m A' (Sx.stepP l m ps b t x).length c' b x) ∧ OwnP w' w.heap.size A' (Sx.stepP l m ps b t x) ∧ (Sx.stepP l m ps b t x).length ≤ c' ∧ Below w.heap.size w w' := by
  rcases hg : Sx.growsB l m ps.length t with _ | _
  · exact after_sameS o l m A c b t x ps w hr hk hc hg
  · exact after_growS o l m A c b t x ps w hr hk hc hg

end Go.Proofs.Ytegfcpdkehgdpaa

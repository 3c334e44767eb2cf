/- The walk of impl.advance. Conditions: the pairs lie in a row of the caller's own. -/
import Derived.Test.YtegfcpdkehgdpaaAf1
namespace Go.Proofs.Ytegfcpdkehgdpaa
open Go.RowKit

def Sx.advP (l m : Int) (ps : List (Int × Int)) (b t x y : Int) : List (Int × Int) := if x = Sx.two l then ps.take b.toNat else if Sx.growsB l m ps.length t = true then ps ++ [(t, y)] else ps
def Sx.advT (l x : Int) : Int := if x = Sx.two l then -1 else x
theorem Sx.adv_clear {l m b t x y : Int} {ps : List (Int × Int)} (h : x = Sx.two l) : Sx.advP l m ps b t x y = ps.take b.toNat ∧ Sx.advT l x = -1 := ⟨if_pos h, if_pos h⟩
theorem Sx.adv_grow {l m b t x y : Int} {ps : List (Int × Int)} (h : x ≠ Sx.two l) (hg : Sx.growsB l m ps.length t = true) : Sx.advP l m ps b t x y = ps ++ [(t, y)] ∧ Sx.advT l x = x := ⟨by unfold Sx.advP; rw [if_neg h, if_pos hg], if_neg h⟩
theorem Sx.adv_same {l m b t x y : Int} {ps : List (Int × Int)} (h : x ≠ Sx.two l) (hg : Sx.growsB l m ps.length t = false) : Sx.advP l m ps b t x y = ps ∧ Sx.advT l x = x := ⟨by unfold Sx.advP; rw [if_neg h, if_neg (by simp [hg])], if_neg h⟩
theorem own_cases {w : World} {base n size c : Nat} {e : TypeId} {A : Option Addr} {xs : List Value} (h : w.ownsRow base e size (.slice A n c) n xs) : (A = none ∧ c = 0 ∧ n = 0) ∨ (∃ g, A = some ⟨g, 0, none⟩ ∧ n ≤ c) := by
  rcases h.2 with ⟨hv, h0⟩ | ⟨g, cap, cur, hv, _, _, hc, _⟩
  · injection hv with h1 _ h3
    exact .inl ⟨h1, h3, h0⟩
  · injection hv with h1 _ h3
    subst h3
    exact .inr ⟨g, h1, hc⟩
theorem ownBlock_slice (A : Option Addr) (n c : Nat) : (Value.slice A n c).ownBlock = blkOf A := by cases A <;> rfl
/-- What a walk leaves behind that stores into one new block only, or into the row. -/
theorem only_more {w a : World} {row : Option Nat} (h : w.grownBy a row) {g : Nat} (hg : w.heap.size ≤ g) {b : World} (hb : a.grownBy b (some g)) : w.grownBy b row :=
  ⟨hb.os.trans h.os, hb.tape.trans h.tape, hb.output.trans h.output, Nat.le_trans h.size hb.size, fun k hk hne => (hb.block k (Nat.lt_of_lt_of_le hk h.size) (fun e => by injection e; omega)).trans (h.block k hk hne)⟩
theorem own_where {base B W : Nat} {v v' : Value} (h : v'.ownBlock = v.ownBlock ∨ v'.ownBlock = some W) (hlt : ∀ k, v.ownBlock = some k → base ≤ k ∧ k < B) (hW : B + 2 ≤ W) : ∀ k, v'.ownBlock = some k → k < B ∨ B + 2 ≤ k := fun k hk => by
  rcases h with h | h
  · exact .inl (hlt k (h.symm.trans hk)).2
  · have := h.symm.trans hk
    injection this with this
    exact .inr (by omega)
theorem own_past {base B n c : Nat} {A : Option Addr} (hlt : ∀ k, (Value.slice A n c).ownBlock = some k → base ≤ k ∧ k < B) : ∀ j, B ≤ j → some j ≠ blkOf A := fun j hj e => by
  have := hlt j ((ownBlock_slice A n c).trans e.symm); omega
theorem only_one (w : World) (g i : Nat) (u : Value) : w.grownBy (w.setCell ⟨g, i, none⟩ u) (some g) := only_setCell (World.grownBy.refl w (some g)) (p := ⟨g, i, none⟩) (.inl rfl) u
theorem only_next {w a b : World} {row : Option Nat} (h : Below w.heap.size w a) (hb : a.grownBy b row) : w.grownBy b row :=
  ⟨hb.os.trans h.os, hb.tape.trans h.tape, hb.output.trans h.output, Nat.le_trans h.size hb.size, fun k hk hne => (hb.block k (Nat.lt_of_lt_of_le hk h.size) hne).trans (h.block k hk)⟩

set_option maxRecDepth 100000 in
set_option maxHeartbeats 4000000 in
theorem advance_none (o l m : Int) (A : Option Addr) (c : Nat) (b t x y : Int) (ps : List (Int × Int)) (base : Nat) (w : World) (hown : w.ownsRow base 63 2 (.slice A ps.length c) ps.length (pvals ps)) (_hbase : base ≤ w.heap.size) (h0 : Sx.setOK o l m = true) (_hz : ps.length ≤ 1024) (_ht : t = -1 ∨ 0 ≤ t) (hb0 : 0 ≤ b) (hb1 : b ≤ (ps.length : Int)) (_hy0 : 0 ≤ y) (_hy1 : y < 256) (hx : x = Sx.two l) (hA : A = none) (hc : c = 0) (hn0 : ps.length = 0) :
    Calls Try.prog 65 #[kv o l m A ps.length c b t, .int .i64 x, .int .u8 y] w fun e w' => ∃ A' c', e = .returned (kv o l m A' (Sx.advP l m ps b t x y).length c' b (Sx.advT l x)) ∧ w'.ownsRow base 63 2 (.slice A' (Sx.advP l m ps b t x y).length c') (Sx.advP l m ps b t x y).length (pvals (Sx.advP l m ps b t x y)) ∧ w.grownBy w' (blkOf A) := by
  obtain rfl : ps = [] := List.eq_nil_of_length_eq_zero hn0
  obtain rfl : b = 0 := by simp at hb1; omega
  subst hA; subst hc
  have ec : (x == Sx.two l) = true := by rw [beq_iff_eq]; exact hx
  have HP := hide (Sx.adv_clear (m := m) (b := 0) (t := t) (y := y) (ps := []) hx)
  clear hx
  obtain ⟨i0, hi0, hz0, hz1, hz2⟩ := info_parts try_infoP
  have B0 : Below w.heap.size w ((w.alloc (.cells #[.int .i64 o, .int .i64 l, .int .i64 m, .slice none 0 0, .int .i64 0, .int .i64 t] 31)).alloc (.cells #[.int .i64 0, .int .i64 0, .int .i64 0, .slice none 0 0, .int .i64 0, .int .i64 0] 31)) := ((Below.refl _ _).alloc (Nat.le_refl _) _).alloc (by simp) _
  have K0 := (Blk.new w 31 #[.int .i64 o, .int .i64 l, .int .i64 m, .slice none 0 0, .int .i64 0, .int .i64 t]).alloc (.cells #[.int .i64 0, .int .i64 0, .int .i64 0, .slice none 0 0, .int .i64 0, .int .i64 0] 31)
  have R0 := blk_new2 w (.cells #[.int .i64 o, .int .i64 l, .int .i64 m, .slice none 0 0, .int .i64 0, .int .i64 t] 31) 31 #[.int .i64 0, .int .i64 0, .int .i64 0, .slice none 0 0, .int .i64 0, .int .i64 0]
  have O0 := (hown.alloc (.cells #[.int .i64 o, .int .i64 l, .int .i64 m, .slice none 0 0, .int .i64 0, .int .i64 t] 31)).alloc (.cells #[.int .i64 0, .int .i64 0, .int .i64 0, .slice none 0 0, .int .i64 0, .int .i64 0] 31)
  have hlt := hown.lt
  have CC := hide (fun wx => by have := impl_ClearCode o l m wx; rwa [Sx.clear_yes h0] at this)
  have a0 : ((w.alloc (.cells #[.int .i64 o, .int .i64 l, .int .i64 m, .slice none 0 0, .int .i64 0, .int .i64 t] 31)).alloc (.cells #[.int .i64 0, .int .i64 0, .int .i64 0, .slice none 0 0, .int .i64 0, .int .i64 0] 31)).cell? ⟨w.heap.size, 0, none⟩ = some (.int .i64 o) := K0.cell 0
  have a1 : ((w.alloc (.cells #[.int .i64 o, .int .i64 l, .int .i64 m, .slice none 0 0, .int .i64 0, .int .i64 t] 31)).alloc (.cells #[.int .i64 0, .int .i64 0, .int .i64 0, .slice none 0 0, .int .i64 0, .int .i64 0] 31)).cell? ⟨w.heap.size, 1, none⟩ = some (.int .i64 l) := K0.cell 1
  have a2 : ((w.alloc (.cells #[.int .i64 o, .int .i64 l, .int .i64 m, .slice none 0 0, .int .i64 0, .int .i64 t] 31)).alloc (.cells #[.int .i64 0, .int .i64 0, .int .i64 0, .slice none 0 0, .int .i64 0, .int .i64 0] 31)).cell? ⟨w.heap.size, 2, none⟩ = some (.int .i64 m) := K0.cell 2
  have a3 : ((w.alloc (.cells #[.int .i64 o, .int .i64 l, .int .i64 m, .slice none 0 0, .int .i64 0, .int .i64 t] 31)).alloc (.cells #[.int .i64 0, .int .i64 0, .int .i64 0, .slice none 0 0, .int .i64 0, .int .i64 0] 31)).cell? ⟨w.heap.size, 3, none⟩ = some (.slice none 0 0) := K0.cell 3
  have a4 : ((w.alloc (.cells #[.int .i64 o, .int .i64 l, .int .i64 m, .slice none 0 0, .int .i64 0, .int .i64 t] 31)).alloc (.cells #[.int .i64 0, .int .i64 0, .int .i64 0, .slice none 0 0, .int .i64 0, .int .i64 0] 31)).cell? ⟨w.heap.size, 4, none⟩ = some (.int .i64 0) := K0.cell 4
  have a5 : ((w.alloc (.cells #[.int .i64 o, .int .i64 l, .int .i64 m, .slice none 0 0, .int .i64 0, .int .i64 t] 31)).alloc (.cells #[.int .i64 0, .int .i64 0, .int .i64 0, .slice none 0 0, .int .i64 0, .int .i64 0] 31)).cell? ⟨w.heap.size, 5, none⟩ = some (.int .i64 t) := K0.cell 5
  clear hown
  go_enter Try.func65, Try.ntmps65
  go_wp2_with fail
  refine ((unhide CC) _).mono ?_; rintro e w1 ⟨rfl, hb1⟩
  have B1 := below_next (Nat.le_refl _) B0 hb1
  have K1 := K0.below hb1 K0.lt
  have R1 := R0.below hb1 R0.lt
  have O1 := own_below O0 hb1
  clear B0 K0 R0 O0 hb1 
  have a0 : w1.cell? ⟨w.heap.size, 0, none⟩ = some (.int .i64 o) := K1.cell 0
  have a1 : w1.cell? ⟨w.heap.size, 1, none⟩ = some (.int .i64 l) := K1.cell 1
  have a2 : w1.cell? ⟨w.heap.size, 2, none⟩ = some (.int .i64 m) := K1.cell 2
  have a3 : w1.cell? ⟨w.heap.size, 3, none⟩ = some (.slice none 0 0) := K1.cell 3
  have a4 : w1.cell? ⟨w.heap.size, 4, none⟩ = some (.int .i64 0) := K1.cell 4
  have a5 : w1.cell? ⟨w.heap.size, 5, none⟩ = some (.int .i64 t) := K1.cell 5
  have G1 := only_next B1 (World.grownBy.refl w1 (blkOf none))
  have c0 : w1.cell? ⟨(w.heap.size + 1), 0, none⟩ = some (.int .i64 0) := R1.cell 0
  have c1 : w1.cell? ⟨(w.heap.size + 1), 1, none⟩ = some (.int .i64 0) := R1.cell 1
  have c2 : w1.cell? ⟨(w.heap.size + 1), 2, none⟩ = some (.int .i64 0) := R1.cell 2
  have c3 : w1.cell? ⟨(w.heap.size + 1), 3, none⟩ = some (.slice none 0 0) := R1.cell 3
  have c4 : w1.cell? ⟨(w.heap.size + 1), 4, none⟩ = some (.int .i64 0) := R1.cell 4
  have c5 : w1.cell? ⟨(w.heap.size + 1), 5, none⟩ = some (.int .i64 0) := R1.cell 5
  have fc0 := R1.frozen 0
  have fc1 := R1.frozen 1
  have fc2 := R1.frozen 2
  have fc3 := R1.frozen 3
  have fc4 := R1.frozen 4
  have fc5 := R1.frozen 5
  have fa3 := K1.frozen 3
  have fa5 := K1.frozen 5
  have RWa := R1.far (p := ⟨w.heap.size, 3, none⟩) (by simp) (.slice none 0 0)
  have GWa := only_more G1 (Nat.le_refl _) (only_one w1 w.heap.size 3 (.slice none 0 0))
  have OWa := O1.kept (only_one w1 w.heap.size 3 (.slice none 0 0)) (.inr fun h => by have := hlt _ h; omega)
  have RW := RWa.far (p := ⟨w.heap.size, 5, none⟩) (by simp) (.int .i64 (-1))
  have GW := only_more GWa (Nat.le_refl _) (only_one _ w.heap.size 5 (.int .i64 (-1)))
  have OW := OWa.kept (only_one _ w.heap.size 5 (.int .i64 (-1))) (.inr fun h => by have := hlt _ h; omega)
  clear RWa GWa OWa
  have HE := hide (show Ending.returned (kv o l m none 0 0 0 (-1)) = .returned (kv o l m none (Sx.advP l m [] 0 t x y).length 0 0 (Sx.advT l x)) by rw [HP.out.1, HP.out.2]; rfl)
  clear O1 G1 B1 K1 R1
  go_wp2_with fail
  have q := blk6_set RW (.int .i64 o) (.int .i64 l) (.int .i64 m) (.slice none 0 0) (.int .i64 0) (.int .i64 (-1))
  have q0 := q.cell 0
  have q1 := q.cell 1
  have q2 := q.cell 2
  have q3 := q.cell 3
  have q4 := q.cell 4
  have q5 := q.cell 5
  exact bodyPost_ret (v := kv o l m none 0 0 0 (-1)) (by simp [results, Try.results65, go_sem, q0, q1, q2, q3, q4, q5]) rfl ⟨none, 0, HE.out, by rw [HP.out.1]; exact OW.kept (only6 _ _ _ _ _ _ _ _) (.inr fun h => by have := hlt _ h; omega), only_more GW (by omega) (only6 _ _ _ _ _ _ _ _)⟩

set_option maxRecDepth 100000 in
set_option maxHeartbeats 4000000 in
theorem advance_some (o l m : Int) (A : Option Addr) (c : Nat) (b t x y : Int) (ps : List (Int × Int)) (base : Nat) (w : World) (hown : w.ownsRow base 63 2 (.slice A ps.length c) ps.length (pvals ps)) (_hbase : base ≤ w.heap.size) (h0 : Sx.setOK o l m = true) (_hz : ps.length ≤ 1024) (_ht : t = -1 ∨ 0 ≤ t) (hb0 : 0 ≤ b) (hb1 : b ≤ (ps.length : Int)) (_hy0 : 0 ≤ y) (_hy1 : y < 256) (g : Nat) (hx : x = Sx.two l) (hA : A = some ⟨g, 0, none⟩) (hnc : ps.length ≤ c) :
    Calls Try.prog 65 #[kv o l m A ps.length c b t, .int .i64 x, .int .u8 y] w fun e w' => ∃ A' c', e = .returned (kv o l m A' (Sx.advP l m ps b t x y).length c' b (Sx.advT l x)) ∧ w'.ownsRow base 63 2 (.slice A' (Sx.advP l m ps b t x y).length c') (Sx.advP l m ps b t x y).length (pvals (Sx.advP l m ps b t x y)) ∧ w.grownBy w' (blkOf A) := by
  subst hA
  have ec : (x == Sx.two l) = true := by rw [beq_iff_eq]; exact hx
  have HP := hide (Sx.adv_clear (m := m) (b := b) (t := t) (y := y) (ps := ps) hx)
  have hkl : (ps.take b.toNat).length = b.toNat := by rw [List.length_take]; omega
  have hk : b.toNat ≤ ps.length := by omega
  have hbc : b ≤ (c : Int) := by omega
  clear hx
  obtain ⟨i0, hi0, hz0, hz1, hz2⟩ := info_parts try_infoP
  have B0 : Below w.heap.size w ((w.alloc (.cells #[.int .i64 o, .int .i64 l, .int .i64 m, .slice (some ⟨g, 0, none⟩) ps.length c, .int .i64 b, .int .i64 t] 31)).alloc (.cells #[.int .i64 0, .int .i64 0, .int .i64 0, .slice none 0 0, .int .i64 0, .int .i64 0] 31)) := ((Below.refl _ _).alloc (Nat.le_refl _) _).alloc (by simp) _
  have K0 := (Blk.new w 31 #[.int .i64 o, .int .i64 l, .int .i64 m, .slice (some ⟨g, 0, none⟩) ps.length c, .int .i64 b, .int .i64 t]).alloc (.cells #[.int .i64 0, .int .i64 0, .int .i64 0, .slice none 0 0, .int .i64 0, .int .i64 0] 31)
  have R0 := blk_new2 w (.cells #[.int .i64 o, .int .i64 l, .int .i64 m, .slice (some ⟨g, 0, none⟩) ps.length c, .int .i64 b, .int .i64 t] 31) 31 #[.int .i64 0, .int .i64 0, .int .i64 0, .slice none 0 0, .int .i64 0, .int .i64 0]
  have O0 := (hown.alloc (.cells #[.int .i64 o, .int .i64 l, .int .i64 m, .slice (some ⟨g, 0, none⟩) ps.length c, .int .i64 b, .int .i64 t] 31)).alloc (.cells #[.int .i64 0, .int .i64 0, .int .i64 0, .slice none 0 0, .int .i64 0, .int .i64 0] 31)
  have hlt := hown.lt
  have CC := hide (fun wx => by have := impl_ClearCode o l m wx; rwa [Sx.clear_yes h0] at this)
  have a0 : ((w.alloc (.cells #[.int .i64 o, .int .i64 l, .int .i64 m, .slice (some ⟨g, 0, none⟩) ps.length c, .int .i64 b, .int .i64 t] 31)).alloc (.cells #[.int .i64 0, .int .i64 0, .int .i64 0, .slice none 0 0, .int .i64 0, .int .i64 0] 31)).cell? ⟨w.heap.size, 0, none⟩ = some (.int .i64 o) := K0.cell 0
  have a1 : ((w.alloc (.cells #[.int .i64 o, .int .i64 l, .int .i64 m, .slice (some ⟨g, 0, none⟩) ps.length c, .int .i64 b, .int .i64 t] 31)).alloc (.cells #[.int .i64 0, .int .i64 0, .int .i64 0, .slice none 0 0, .int .i64 0, .int .i64 0] 31)).cell? ⟨w.heap.size, 1, none⟩ = some (.int .i64 l) := K0.cell 1
  have a2 : ((w.alloc (.cells #[.int .i64 o, .int .i64 l, .int .i64 m, .slice (some ⟨g, 0, none⟩) ps.length c, .int .i64 b, .int .i64 t] 31)).alloc (.cells #[.int .i64 0, .int .i64 0, .int .i64 0, .slice none 0 0, .int .i64 0, .int .i64 0] 31)).cell? ⟨w.heap.size, 2, none⟩ = some (.int .i64 m) := K0.cell 2
  have a3 : ((w.alloc (.cells #[.int .i64 o, .int .i64 l, .int .i64 m, .slice (some ⟨g, 0, none⟩) ps.length c, .int .i64 b, .int .i64 t] 31)).alloc (.cells #[.int .i64 0, .int .i64 0, .int .i64 0, .slice none 0 0, .int .i64 0, .int .i64 0] 31)).cell? ⟨w.heap.size, 3, none⟩ = some (.slice (some ⟨g, 0, none⟩) ps.length c) := K0.cell 3
  have a4 : ((w.alloc (.cells #[.int .i64 o, .int .i64 l, .int .i64 m, .slice (some ⟨g, 0, none⟩) ps.length c, .int .i64 b, .int .i64 t] 31)).alloc (.cells #[.int .i64 0, .int .i64 0, .int .i64 0, .slice none 0 0, .int .i64 0, .int .i64 0] 31)).cell? ⟨w.heap.size, 4, none⟩ = some (.int .i64 b) := K0.cell 4
  have a5 : ((w.alloc (.cells #[.int .i64 o, .int .i64 l, .int .i64 m, .slice (some ⟨g, 0, none⟩) ps.length c, .int .i64 b, .int .i64 t] 31)).alloc (.cells #[.int .i64 0, .int .i64 0, .int .i64 0, .slice none 0 0, .int .i64 0, .int .i64 0] 31)).cell? ⟨w.heap.size, 5, none⟩ = some (.int .i64 t) := K0.cell 5
  go_enter Try.func65, Try.ntmps65
  go_wp2_with fail
  refine ((unhide CC) _).mono ?_; rintro e w1 ⟨rfl, hb1⟩
  have B1 := below_next (Nat.le_refl _) B0 hb1
  have K1 := K0.below hb1 K0.lt
  have R1 := R0.below hb1 R0.lt
  have O1 := own_below O0 hb1
  clear B0 K0 R0 O0 hb1 
  have a0 : w1.cell? ⟨w.heap.size, 0, none⟩ = some (.int .i64 o) := K1.cell 0
  have a1 : w1.cell? ⟨w.heap.size, 1, none⟩ = some (.int .i64 l) := K1.cell 1
  have a2 : w1.cell? ⟨w.heap.size, 2, none⟩ = some (.int .i64 m) := K1.cell 2
  have a3 : w1.cell? ⟨w.heap.size, 3, none⟩ = some (.slice (some ⟨g, 0, none⟩) ps.length c) := K1.cell 3
  have a4 : w1.cell? ⟨w.heap.size, 4, none⟩ = some (.int .i64 b) := K1.cell 4
  have a5 : w1.cell? ⟨w.heap.size, 5, none⟩ = some (.int .i64 t) := K1.cell 5
  have G1 := only_next B1 (World.grownBy.refl w1 (blkOf (some ⟨g, 0, none⟩)))
  have OC := own_cut O1 hk
  rw [pvals_take] at OC
  have c0 : w1.cell? ⟨(w.heap.size + 1), 0, none⟩ = some (.int .i64 0) := R1.cell 0
  have c1 : w1.cell? ⟨(w.heap.size + 1), 1, none⟩ = some (.int .i64 0) := R1.cell 1
  have c2 : w1.cell? ⟨(w.heap.size + 1), 2, none⟩ = some (.int .i64 0) := R1.cell 2
  have c3 : w1.cell? ⟨(w.heap.size + 1), 3, none⟩ = some (.slice none 0 0) := R1.cell 3
  have c4 : w1.cell? ⟨(w.heap.size + 1), 4, none⟩ = some (.int .i64 0) := R1.cell 4
  have c5 : w1.cell? ⟨(w.heap.size + 1), 5, none⟩ = some (.int .i64 0) := R1.cell 5
  have fc0 := R1.frozen 0
  have fc1 := R1.frozen 1
  have fc2 := R1.frozen 2
  have fc3 := R1.frozen 3
  have fc4 := R1.frozen 4
  have fc5 := R1.frozen 5
  have fa3 := K1.frozen 3
  have fa5 := K1.frozen 5
  have RWa := R1.far (p := ⟨w.heap.size, 3, none⟩) (by simp) (.slice (some ⟨g, 0, none⟩) b.toNat c)
  have GWa := only_more G1 (Nat.le_refl _) (only_one w1 w.heap.size 3 (.slice (some ⟨g, 0, none⟩) b.toNat c))
  have OWa := OC.kept (only_one w1 w.heap.size 3 (.slice (some ⟨g, 0, none⟩) b.toNat c)) (.inr fun h => by have := hlt _ h; omega)
  have RW := RWa.far (p := ⟨w.heap.size, 5, none⟩) (by simp) (.int .i64 (-1))
  have GW := only_more GWa (Nat.le_refl _) (only_one _ w.heap.size 5 (.int .i64 (-1)))
  have OW := OWa.kept (only_one _ w.heap.size 5 (.int .i64 (-1))) (.inr fun h => by have := hlt _ h; omega)
  clear RWa GWa OWa
  have HE := hide (show Ending.returned (kv o l m (some ⟨g, 0, none⟩) b.toNat c b (-1)) = .returned (kv o l m (some ⟨g, 0, none⟩) (Sx.advP l m ps b t x y).length c b (Sx.advT l x)) by rw [HP.out.1, HP.out.2, hkl])
  clear O1 OC G1 B1 K1 R1
  go_wp2_with fail
  have q := blk6_set RW (.int .i64 o) (.int .i64 l) (.int .i64 m) (.slice (some ⟨g, 0, none⟩) b.toNat c) (.int .i64 b) (.int .i64 (-1))
  have q0 := q.cell 0
  have q1 := q.cell 1
  have q2 := q.cell 2
  have q3 := q.cell 3
  have q4 := q.cell 4
  have q5 := q.cell 5
  exact bodyPost_ret (v := kv o l m (some ⟨g, 0, none⟩) b.toNat c b (-1)) (by simp [results, Try.results65, go_sem, q0, q1, q2, q3, q4, q5]) rfl ⟨(some ⟨g, 0, none⟩), c, HE.out, by rw [HP.out.1, hkl]; exact OW.kept (only6 _ _ _ _ _ _ _ _) (.inr fun h => by have := hlt _ h; omega), only_more GW (by omega) (only6 _ _ _ _ _ _ _ _)⟩

set_option maxRecDepth 100000 in
set_option maxHeartbeats 4000000 in
theorem advance_same (o l m : Int) (A : Option Addr) (c : Nat) (b t x y : Int) (ps : List (Int × Int)) (base : Nat) (w : World) (hown : w.ownsRow base 63 2 (.slice A ps.length c) ps.length (pvals ps)) (_hbase : base ≤ w.heap.size) (h0 : Sx.setOK o l m = true) (hz : ps.length ≤ 1024) (ht : t = -1 ∨ 0 ≤ t) (_hb0 : 0 ≤ b) (_hb1 : b ≤ (ps.length : Int)) (_hy0 : 0 ≤ y) (_hy1 : y < 256) (hx : x ≠ Sx.two l) (hg : Sx.growsB l m ps.length t = false) :
    Calls Try.prog 65 #[kv o l m A ps.length c b t, .int .i64 x, .int .u8 y] w fun e w' => ∃ A' c', e = .returned (kv o l m A' (Sx.advP l m ps b t x y).length c' b (Sx.advT l x)) ∧ w'.ownsRow base 63 2 (.slice A' (Sx.advP l m ps b t x y).length c') (Sx.advP l m ps b t x y).length (pvals (Sx.advP l m ps b t x y)) ∧ w.grownBy w' (blkOf A) := by
  have ec : (x == Sx.two l) = false := by rw [beq_eq_false_iff_ne]; exact hx
  obtain ⟨i0, hi0, hz0, hz1, hz2⟩ := info_parts try_infoP
  have B0 : Below w.heap.size w ((w.alloc (.cells #[.int .i64 o, .int .i64 l, .int .i64 m, .slice A ps.length c, .int .i64 b, .int .i64 t] 31)).alloc (.cells #[.int .i64 0, .int .i64 0, .int .i64 0, .slice none 0 0, .int .i64 0, .int .i64 0] 31)) := ((Below.refl _ _).alloc (Nat.le_refl _) _).alloc (by simp) _
  have K0 := (Blk.new w 31 #[.int .i64 o, .int .i64 l, .int .i64 m, .slice A ps.length c, .int .i64 b, .int .i64 t]).alloc (.cells #[.int .i64 0, .int .i64 0, .int .i64 0, .slice none 0 0, .int .i64 0, .int .i64 0] 31)
  have R0 := blk_new2 w (.cells #[.int .i64 o, .int .i64 l, .int .i64 m, .slice A ps.length c, .int .i64 b, .int .i64 t] 31) 31 #[.int .i64 0, .int .i64 0, .int .i64 0, .slice none 0 0, .int .i64 0, .int .i64 0]
  have O0 := (hown.alloc (.cells #[.int .i64 o, .int .i64 l, .int .i64 m, .slice A ps.length c, .int .i64 b, .int .i64 t] 31)).alloc (.cells #[.int .i64 0, .int .i64 0, .int .i64 0, .slice none 0 0, .int .i64 0, .int .i64 0] 31)
  have hlt := hown.lt
  have CC := hide (fun wx => by have := impl_ClearCode o l m wx; rwa [Sx.clear_yes h0] at this)
  have a0 : ((w.alloc (.cells #[.int .i64 o, .int .i64 l, .int .i64 m, .slice A ps.length c, .int .i64 b, .int .i64 t] 31)).alloc (.cells #[.int .i64 0, .int .i64 0, .int .i64 0, .slice none 0 0, .int .i64 0, .int .i64 0] 31)).cell? ⟨w.heap.size, 0, none⟩ = some (.int .i64 o) := K0.cell 0
  have a1 : ((w.alloc (.cells #[.int .i64 o, .int .i64 l, .int .i64 m, .slice A ps.length c, .int .i64 b, .int .i64 t] 31)).alloc (.cells #[.int .i64 0, .int .i64 0, .int .i64 0, .slice none 0 0, .int .i64 0, .int .i64 0] 31)).cell? ⟨w.heap.size, 1, none⟩ = some (.int .i64 l) := K0.cell 1
  have a2 : ((w.alloc (.cells #[.int .i64 o, .int .i64 l, .int .i64 m, .slice A ps.length c, .int .i64 b, .int .i64 t] 31)).alloc (.cells #[.int .i64 0, .int .i64 0, .int .i64 0, .slice none 0 0, .int .i64 0, .int .i64 0] 31)).cell? ⟨w.heap.size, 2, none⟩ = some (.int .i64 m) := K0.cell 2
  have a3 : ((w.alloc (.cells #[.int .i64 o, .int .i64 l, .int .i64 m, .slice A ps.length c, .int .i64 b, .int .i64 t] 31)).alloc (.cells #[.int .i64 0, .int .i64 0, .int .i64 0, .slice none 0 0, .int .i64 0, .int .i64 0] 31)).cell? ⟨w.heap.size, 3, none⟩ = some (.slice A ps.length c) := K0.cell 3
  have a4 : ((w.alloc (.cells #[.int .i64 o, .int .i64 l, .int .i64 m, .slice A ps.length c, .int .i64 b, .int .i64 t] 31)).alloc (.cells #[.int .i64 0, .int .i64 0, .int .i64 0, .slice none 0 0, .int .i64 0, .int .i64 0] 31)).cell? ⟨w.heap.size, 4, none⟩ = some (.int .i64 b) := K0.cell 4
  have a5 : ((w.alloc (.cells #[.int .i64 o, .int .i64 l, .int .i64 m, .slice A ps.length c, .int .i64 b, .int .i64 t] 31)).alloc (.cells #[.int .i64 0, .int .i64 0, .int .i64 0, .slice none 0 0, .int .i64 0, .int .i64 0] 31)).cell? ⟨w.heap.size, 5, none⟩ = some (.int .i64 t) := K0.cell 5
  have CG := hide (fun wx => impl_grows o l m A ps.length c b t wx h0 (by omega) ht)
  clear ht
  rw [hg] at CG
  have HP := hide (Sx.adv_same (b := b) (y := y) hx hg)
  clear hx hg
  go_enter Try.func65, Try.ntmps65
  go_wp2_with fail
  refine ((unhide CC) _).mono ?_; rintro e w1 ⟨rfl, hb1⟩
  have B1 := below_next (Nat.le_refl _) B0 hb1
  have K1 := K0.below hb1 K0.lt
  have R1 := R0.below hb1 R0.lt
  have O1 := own_below O0 hb1
  clear B0 K0 R0 O0 hb1 
  have a0 : w1.cell? ⟨w.heap.size, 0, none⟩ = some (.int .i64 o) := K1.cell 0
  have a1 : w1.cell? ⟨w.heap.size, 1, none⟩ = some (.int .i64 l) := K1.cell 1
  have a2 : w1.cell? ⟨w.heap.size, 2, none⟩ = some (.int .i64 m) := K1.cell 2
  have a3 : w1.cell? ⟨w.heap.size, 3, none⟩ = some (.slice A ps.length c) := K1.cell 3
  have a4 : w1.cell? ⟨w.heap.size, 4, none⟩ = some (.int .i64 b) := K1.cell 4
  have a5 : w1.cell? ⟨w.heap.size, 5, none⟩ = some (.int .i64 t) := K1.cell 5
  go_wp2_with fail
  refine ((unhide CG) _).mono ?_; rintro e w2 ⟨rfl, hb2⟩
  have B2 := below_next (Nat.le_refl _) B1 hb2
  have K2 := K1.below hb2 K1.lt
  have R2 := R1.below hb2 R1.lt
  have O2 := own_below O1 hb2
  clear B1 K1 R1 O1 hb2 a0 a1 a2 a3 a4 a5
  have a0 : w2.cell? ⟨w.heap.size, 0, none⟩ = some (.int .i64 o) := K2.cell 0
  have a1 : w2.cell? ⟨w.heap.size, 1, none⟩ = some (.int .i64 l) := K2.cell 1
  have a2 : w2.cell? ⟨w.heap.size, 2, none⟩ = some (.int .i64 m) := K2.cell 2
  have a3 : w2.cell? ⟨w.heap.size, 3, none⟩ = some (.slice A ps.length c) := K2.cell 3
  have a4 : w2.cell? ⟨w.heap.size, 4, none⟩ = some (.int .i64 b) := K2.cell 4
  have a5 : w2.cell? ⟨w.heap.size, 5, none⟩ = some (.int .i64 t) := K2.cell 5
  have G2 := only_next B2 (World.grownBy.refl w2 (blkOf A))
  have c0 : w2.cell? ⟨(w.heap.size + 1), 0, none⟩ = some (.int .i64 0) := R2.cell 0
  have c1 : w2.cell? ⟨(w.heap.size + 1), 1, none⟩ = some (.int .i64 0) := R2.cell 1
  have c2 : w2.cell? ⟨(w.heap.size + 1), 2, none⟩ = some (.int .i64 0) := R2.cell 2
  have c3 : w2.cell? ⟨(w.heap.size + 1), 3, none⟩ = some (.slice none 0 0) := R2.cell 3
  have c4 : w2.cell? ⟨(w.heap.size + 1), 4, none⟩ = some (.int .i64 0) := R2.cell 4
  have c5 : w2.cell? ⟨(w.heap.size + 1), 5, none⟩ = some (.int .i64 0) := R2.cell 5
  have fc0 := R2.frozen 0
  have fc1 := R2.frozen 1
  have fc2 := R2.frozen 2
  have fc3 := R2.frozen 3
  have fc4 := R2.frozen 4
  have fc5 := R2.frozen 5
  have fa5 := K2.frozen 5
  have RW := R2.far (p := ⟨w.heap.size, 5, none⟩) (by simp) (.int .i64 x)
  have GW := only_more G2 (Nat.le_refl _) (only_one w2 w.heap.size 5 (.int .i64 x))
  have OW := O2.kept (only_one w2 w.heap.size 5 (.int .i64 x)) (.inr fun h => by have := hlt _ h; omega)
  have HE := hide (show Ending.returned (kv o l m A ps.length c b x) = .returned (kv o l m A (Sx.advP l m ps b t x y).length c b (Sx.advT l x)) by rw [HP.out.1, HP.out.2])
  clear O2 G2 B2 K2 R2
  go_wp2_with fail
  have q := blk6_set RW (.int .i64 o) (.int .i64 l) (.int .i64 m) (.slice A ps.length c) (.int .i64 b) (.int .i64 x)
  have q0 := q.cell 0
  have q1 := q.cell 1
  have q2 := q.cell 2
  have q3 := q.cell 3
  have q4 := q.cell 4
  have q5 := q.cell 5
  exact bodyPost_ret (v := kv o l m A ps.length c b x) (by simp [results, Try.results65, go_sem, q0, q1, q2, q3, q4, q5]) rfl ⟨A, c, HE.out, by rw [HP.out.1]; exact OW.kept (only6 _ _ _ _ _ _ _ _) (.inr fun h => by have := hlt _ h; omega), only_more GW (by omega) (only6 _ _ _ _ _ _ _ _)⟩

set_option maxRecDepth 100000 in
set_option maxHeartbeats 4000000 in
theorem advance_grow (o l m : Int) (A : Option Addr) (c : Nat) (b t x y : Int) (ps : List (Int × Int)) (base : Nat) (w : World) (hown : w.ownsRow base 63 2 (.slice A ps.length c) ps.length (pvals ps)) (hbase : base ≤ w.heap.size) (h0 : Sx.setOK o l m = true) (hz : ps.length ≤ 1024) (ht : t = -1 ∨ 0 ≤ t) (_hb0 : 0 ≤ b) (_hb1 : b ≤ (ps.length : Int)) (hy0 : 0 ≤ y) (hy1 : y < 256) (hx : x ≠ Sx.two l) (hg : Sx.growsB l m ps.length t = true) :
    Calls Try.prog 65 #[kv o l m A ps.length c b t, .int .i64 x, .int .u8 y] w fun e w' => ∃ A' c', e = .returned (kv o l m A' (Sx.advP l m ps b t x y).length c' b (Sx.advT l x)) ∧ w'.ownsRow base 63 2 (.slice A' (Sx.advP l m ps b t x y).length c') (Sx.advP l m ps b t x y).length (pvals (Sx.advP l m ps b t x y)) ∧ w.grownBy w' (blkOf A) := by
  have ec : (x == Sx.two l) = false := by rw [beq_eq_false_iff_ne]; exact hx
  obtain ⟨i0, hi0, hz0, hz1, hz2⟩ := info_parts try_infoP
  have B0 : Below w.heap.size w ((w.alloc (.cells #[.int .i64 o, .int .i64 l, .int .i64 m, .slice A ps.length c, .int .i64 b, .int .i64 t] 31)).alloc (.cells #[.int .i64 0, .int .i64 0, .int .i64 0, .slice none 0 0, .int .i64 0, .int .i64 0] 31)) := ((Below.refl _ _).alloc (Nat.le_refl _) _).alloc (by simp) _
  have K0 := (Blk.new w 31 #[.int .i64 o, .int .i64 l, .int .i64 m, .slice A ps.length c, .int .i64 b, .int .i64 t]).alloc (.cells #[.int .i64 0, .int .i64 0, .int .i64 0, .slice none 0 0, .int .i64 0, .int .i64 0] 31)
  have R0 := blk_new2 w (.cells #[.int .i64 o, .int .i64 l, .int .i64 m, .slice A ps.length c, .int .i64 b, .int .i64 t] 31) 31 #[.int .i64 0, .int .i64 0, .int .i64 0, .slice none 0 0, .int .i64 0, .int .i64 0]
  have O0 := (hown.alloc (.cells #[.int .i64 o, .int .i64 l, .int .i64 m, .slice A ps.length c, .int .i64 b, .int .i64 t] 31)).alloc (.cells #[.int .i64 0, .int .i64 0, .int .i64 0, .slice none 0 0, .int .i64 0, .int .i64 0] 31)
  have hlt := hown.lt
  have CC := hide (fun wx => by have := impl_ClearCode o l m wx; rwa [Sx.clear_yes h0] at this)
  have a0 : ((w.alloc (.cells #[.int .i64 o, .int .i64 l, .int .i64 m, .slice A ps.length c, .int .i64 b, .int .i64 t] 31)).alloc (.cells #[.int .i64 0, .int .i64 0, .int .i64 0, .slice none 0 0, .int .i64 0, .int .i64 0] 31)).cell? ⟨w.heap.size, 0, none⟩ = some (.int .i64 o) := K0.cell 0
  have a1 : ((w.alloc (.cells #[.int .i64 o, .int .i64 l, .int .i64 m, .slice A ps.length c, .int .i64 b, .int .i64 t] 31)).alloc (.cells #[.int .i64 0, .int .i64 0, .int .i64 0, .slice none 0 0, .int .i64 0, .int .i64 0] 31)).cell? ⟨w.heap.size, 1, none⟩ = some (.int .i64 l) := K0.cell 1
  have a2 : ((w.alloc (.cells #[.int .i64 o, .int .i64 l, .int .i64 m, .slice A ps.length c, .int .i64 b, .int .i64 t] 31)).alloc (.cells #[.int .i64 0, .int .i64 0, .int .i64 0, .slice none 0 0, .int .i64 0, .int .i64 0] 31)).cell? ⟨w.heap.size, 2, none⟩ = some (.int .i64 m) := K0.cell 2
  have a3 : ((w.alloc (.cells #[.int .i64 o, .int .i64 l, .int .i64 m, .slice A ps.length c, .int .i64 b, .int .i64 t] 31)).alloc (.cells #[.int .i64 0, .int .i64 0, .int .i64 0, .slice none 0 0, .int .i64 0, .int .i64 0] 31)).cell? ⟨w.heap.size, 3, none⟩ = some (.slice A ps.length c) := K0.cell 3
  have a4 : ((w.alloc (.cells #[.int .i64 o, .int .i64 l, .int .i64 m, .slice A ps.length c, .int .i64 b, .int .i64 t] 31)).alloc (.cells #[.int .i64 0, .int .i64 0, .int .i64 0, .slice none 0 0, .int .i64 0, .int .i64 0] 31)).cell? ⟨w.heap.size, 4, none⟩ = some (.int .i64 b) := K0.cell 4
  have a5 : ((w.alloc (.cells #[.int .i64 o, .int .i64 l, .int .i64 m, .slice A ps.length c, .int .i64 b, .int .i64 t] 31)).alloc (.cells #[.int .i64 0, .int .i64 0, .int .i64 0, .slice none 0 0, .int .i64 0, .int .i64 0] 31)).cell? ⟨w.heap.size, 5, none⟩ = some (.int .i64 t) := K0.cell 5
  have CG := hide (fun wx => impl_grows o l m A ps.length c b t wx h0 (by omega) ht)
  clear ht
  rw [hg] at CG
  have HP := hide (Sx.adv_grow (b := b) (y := y) hx hg)
  have hl1 : (ps ++ [(t, y)]).length = ps.length + 1 := by simp
  have e1 : IntKind.i64.wrap y = y := IntWalk.i64_in _ (by omega)
  clear hx hg
  go_enter Try.func65, Try.ntmps65
  go_wp2_with fail
  refine ((unhide CC) _).mono ?_; rintro e w1 ⟨rfl, hb1⟩
  have B1 := below_next (Nat.le_refl _) B0 hb1
  have K1 := K0.below hb1 K0.lt
  have R1 := R0.below hb1 R0.lt
  have O1 := own_below O0 hb1
  clear B0 K0 R0 O0 hb1 
  have a0 : w1.cell? ⟨w.heap.size, 0, none⟩ = some (.int .i64 o) := K1.cell 0
  have a1 : w1.cell? ⟨w.heap.size, 1, none⟩ = some (.int .i64 l) := K1.cell 1
  have a2 : w1.cell? ⟨w.heap.size, 2, none⟩ = some (.int .i64 m) := K1.cell 2
  have a3 : w1.cell? ⟨w.heap.size, 3, none⟩ = some (.slice A ps.length c) := K1.cell 3
  have a4 : w1.cell? ⟨w.heap.size, 4, none⟩ = some (.int .i64 b) := K1.cell 4
  have a5 : w1.cell? ⟨w.heap.size, 5, none⟩ = some (.int .i64 t) := K1.cell 5
  go_wp2_with fail
  refine ((unhide CG) _).mono ?_; rintro e w2 ⟨rfl, hb2⟩
  have B2 := below_next (Nat.le_refl _) B1 hb2
  have K2 := K1.below hb2 K1.lt
  have R2 := R1.below hb2 R1.lt
  have O2 := own_below O1 hb2
  clear B1 K1 R1 O1 hb2 a0 a1 a2 a3 a4 a5
  have a0 : w2.cell? ⟨w.heap.size, 0, none⟩ = some (.int .i64 o) := K2.cell 0
  have a1 : w2.cell? ⟨w.heap.size, 1, none⟩ = some (.int .i64 l) := K2.cell 1
  have a2 : w2.cell? ⟨w.heap.size, 2, none⟩ = some (.int .i64 m) := K2.cell 2
  have a3 : w2.cell? ⟨w.heap.size, 3, none⟩ = some (.slice A ps.length c) := K2.cell 3
  have a4 : w2.cell? ⟨w.heap.size, 4, none⟩ = some (.int .i64 b) := K2.cell 4
  have a5 : w2.cell? ⟨w.heap.size, 5, none⟩ = some (.int .i64 t) := K2.cell 5
  have PN : PR (w2.alloc (.cells #[.int .i64 t, .int .i64 y] 63)) (w2.heap.size + 1) (some ⟨w2.heap.size, 0, none⟩) [(t, y)] := PR.of_blk (Blk.new w2 63 #[.int .i64 t, .int .i64 y]) (by omega)
  have O3 := O2.alloc (.cells #[.int .i64 t, .int .i64 y] 63)
  have hs2 := R2.lt
  go_wp2_with (at_builtin; refine wpList_append_any _ rfl _ _ _ rfl base 63 i0 (.agg #[.int .i64 0, .int .i64 0]) 2 16 Try.underlying29 hi0 hz0 hz1 hz2 (by rfl) (by decide) (.slice A ps.length c) ps.length (pvals ps) rfl O3 _ _ 1 1 (pvals [(t, y)]) rfl PN.reads (pvals_one _) (by simp only [maxLen]; omega) (by omega) (by simp; omega) ?_; intro v' w9 hown9 hgrow hsh; rw [← pvals_append] at hown9; obtain ⟨A', c', rfl⟩ := own_shapeN hown9; have hlt9 := own_where hsh hlt (by rw [World.size_alloc]; omega); rw [ownBlock_slice] at hgrow; have hne := own_past hlt; have G9 := only_next (B2.alloc B2.size (.cells #[.int .i64 t, .int .i64 y] 63)) hgrow; have K9 := (K2.alloc (.cells #[.int .i64 t, .int .i64 y] 63)).grown hgrow (hne _ (Nat.le_refl _)); have R9 := (R2.alloc (.cells #[.int .i64 t, .int .i64 y] 63)).grown hgrow (hne _ (by omega)); clear hgrow hsh hne B2 K2 R2 O2 O3 PN a0 a1 a2 a3 a4 a5; have a0 : w9.cell? ⟨w.heap.size, 0, none⟩ = some (.int .i64 o) := K9.cell 0; have a1 : w9.cell? ⟨w.heap.size, 1, none⟩ = some (.int .i64 l) := K9.cell 1; have a2 : w9.cell? ⟨w.heap.size, 2, none⟩ = some (.int .i64 m) := K9.cell 2; have a3 : w9.cell? ⟨w.heap.size, 3, none⟩ = some (.slice A ps.length c) := K9.cell 3; have a4 : w9.cell? ⟨w.heap.size, 4, none⟩ = some (.int .i64 b) := K9.cell 4; have a5 : w9.cell? ⟨w.heap.size, 5, none⟩ = some (.int .i64 t) := K9.cell 5; have c0 : w9.cell? ⟨(w.heap.size + 1), 0, none⟩ = some (.int .i64 0) := R9.cell 0; have c1 : w9.cell? ⟨(w.heap.size + 1), 1, none⟩ = some (.int .i64 0) := R9.cell 1; have c2 : w9.cell? ⟨(w.heap.size + 1), 2, none⟩ = some (.int .i64 0) := R9.cell 2; have c3 : w9.cell? ⟨(w.heap.size + 1), 3, none⟩ = some (.slice none 0 0) := R9.cell 3; have c4 : w9.cell? ⟨(w.heap.size + 1), 4, none⟩ = some (.int .i64 0) := R9.cell 4; have c5 : w9.cell? ⟨(w.heap.size + 1), 5, none⟩ = some (.int .i64 0) := R9.cell 5; have fc0 := R9.frozen 0; have fc1 := R9.frozen 1; have fc2 := R9.frozen 2; have fc3 := R9.frozen 3; have fc4 := R9.frozen 4; have fc5 := R9.frozen 5; have fa3 := K9.frozen 3; have fa5 := K9.frozen 5; have RWa := R9.far (p := ⟨w.heap.size, 3, none⟩) (by simp) (.slice A' (ps.length + 1) c'); have GWa := only_more G9 (Nat.le_refl _) (only_one w9 w.heap.size 3 (.slice A' (ps.length + 1) c')); have OWa := hown9.kept (only_one w9 w.heap.size 3 (.slice A' (ps.length + 1) c')) (.inr fun h => by have := hlt9 _ h; omega); have RW := RWa.far (p := ⟨w.heap.size, 5, none⟩) (by simp) (.int .i64 x); have GW := only_more GWa (Nat.le_refl _) (only_one _ w.heap.size 5 (.int .i64 x)); have OW := OWa.kept (only_one _ w.heap.size 5 (.int .i64 x)) (.inr fun h => by have := hlt9 _ h; omega); clear RWa GWa OWa; have HE := hide (show Ending.returned (kv o l m A' (ps.length + 1) c' b x) = .returned (kv o l m A' (Sx.advP l m ps b t x y).length c' b (Sx.advT l x)) by rw [HP.out.1, HP.out.2, hl1]))
  have q := blk6_set RW (.int .i64 o) (.int .i64 l) (.int .i64 m) (.slice A' (ps.length + 1) c') (.int .i64 b) (.int .i64 x)
  have q0 := q.cell 0
  have q1 := q.cell 1
  have q2 := q.cell 2
  have q3 := q.cell 3
  have q4 := q.cell 4
  have q5 := q.cell 5
  exact bodyPost_ret (v := kv o l m A' (ps.length + 1) c' b x) (by simp [results, Try.results65, go_sem, q0, q1, q2, q3, q4, q5]) rfl ⟨A', c', HE.out, by rw [HP.out.1]; rw [hl1]; exact OW.kept (only6 _ _ _ _ _ _ _ _) (.inr fun h => by have := hlt9 _ h; omega), only_more GW (by omega) (only6 _ _ _ _ _ _ _ _)⟩

set_option maxRecDepth 100000 in
set_option maxHeartbeats 4000000 in
theorem impl_advance (o l m : Int) (A : Option Addr) (c : Nat) (b t x y : Int) (ps : List (Int × Int)) (base : Nat) (w : World) (hown : w.ownsRow base 63 2 (.slice A ps.length c) ps.length (pvals ps)) (hbase : base ≤ w.heap.size) (h0 : Sx.setOK o l m = true) (hz : ps.length ≤ 1024) (ht : t = -1 ∨ 0 ≤ t) (hb0 : 0 ≤ b) (hb1 : b ≤ (ps.length : Int)) (hy0 : 0 ≤ y) (hy1 : y < 256) :
    Calls Try.prog 65 #[kv o l m A ps.length c b t, .int .i64 x, .int .u8 y] w fun e w' => ∃ A' c', e = .returned (kv o l m A' (Sx.advP l m ps b t x y).length c' b (Sx.advT l x)) ∧ w'.ownsRow base 63 2 (.slice A' (Sx.advP l m ps b t x y).length c') (Sx.advP l m ps b t x y).length (pvals (Sx.advP l m ps b t x y)) ∧ w.grownBy w' (blkOf A) := by
  by_cases hx : x = Sx.two l
  · rcases own_cases hown with ⟨hA, hc, hn0⟩ | ⟨g, hA, hnc⟩
    · exact advance_none o l m A c b t x y ps base w hown hbase h0 hz ht hb0 hb1 hy0 hy1 hx hA hc hn0
    · exact advance_some o l m A c b t x y ps base w hown hbase h0 hz ht hb0 hb1 hy0 hy1 g hx hA hnc
  · rcases hg : Sx.growsB l m ps.length t with _ | _
    · exact advance_same o l m A c b t x y ps base w hown hbase h0 hz ht hb0 hb1 hy0 hy1 hx hg
    · exact advance_grow o l m A c b t x y ps base w hown hbase h0 hz ht hb0 hb1 hy0 hy1 hx hg

end Go.Proofs.Ytegfcpdkehgdpaa

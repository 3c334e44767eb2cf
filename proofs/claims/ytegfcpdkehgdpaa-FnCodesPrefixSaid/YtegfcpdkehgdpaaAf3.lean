/- The walk of impl.After. Conditions: the pairs' cells lie below the call's own memory. -/
import Derived.Test.YtegfcpdkehgdpaaAf2
namespace Go.Proofs.Ytegfcpdkehgdpaa
open Go.RowKit

theorem own_base {w : World} {base base' n size : Nat} {e : TypeId} {v : Value} {xs : List Value} (h : w.ownsRow base e size v n xs) (hb : base' ≤ base) : w.ownsRow base' e size v n xs := by
  rcases h with ⟨h0, h | ⟨g, cap, cur, h1, h2, h3⟩⟩
  · exact ⟨h0, .inl h⟩
  · exact ⟨h0, .inr ⟨g, cap, cur, h1, by omega, h3⟩⟩
/-- The first byte of a text. -/
def Sx.fstB (u : ByteArray) : Int := if h : 0 < u.size then (u[0].toNat : Int) else 0
theorem Sx.fst_of {u : ByteArray} (h : 0 < u.size) : Sx.fstB u = (u[0].toNat : Int) := dif_pos h
theorem Sx.fst_bd (u : ByteArray) : 0 ≤ Sx.fstB u ∧ Sx.fstB u < 256 := by
  unfold Sx.fstB; split
  · have := UInt8.toNat_lt u[0]; omega
  · omega
def Sx.aftOK (o l m : Int) (ps : List (Int × Int)) (b t x : Int) : Bool := Sx.kOK o l m ps b t && (decide (x = Sx.two l) || Sx.canB l m ps.length t x)
def Sx.stepP (l m : Int) (ps : List (Int × Int)) (b t x : Int) : List (Int × Int) := Sx.advP l m ps b t x (Sx.fstB (str (Sx.anyW l ps t x)))
def Sx.ifA (h : Bool) (x : Int) : Int := if h = true then x else 0
def Sx.ifP (h : Bool) (ps : List (Int × Int)) : List (Int × Int) := if h = true then ps else []
theorem Sx.aft_yes {o l m b t x : Int} {ps : List (Int × Int)} (h : Sx.kOK o l m ps b t = true) (h1 : x = Sx.two l ∨ Sx.canB l m ps.length t x = true) : Sx.aftOK o l m ps b t x = true := by
  rcases h1 with h1 | h1 <;> simp [Sx.aftOK, h, h1]
theorem Sx.aft_no {o l m b t x : Int} {ps : List (Int × Int)} (h : Sx.kOK o l m ps b t = false ∨ (x ≠ Sx.two l ∧ Sx.canB l m ps.length t x = false)) : Sx.aftOK o l m ps b t x = false := by
  rcases h with h | h <;> simp [Sx.aftOK, h]
theorem Sx.step_clear {l m b t x : Int} {ps : List (Int × Int)} (y : Int) (h : x = Sx.two l) : Sx.stepP l m ps b t x = Sx.advP l m ps b t x y := (Sx.adv_clear h).1.trans (Sx.adv_clear h).1.symm
theorem Sx.adv_len (l m : Int) (ps : List (Int × Int)) (b t x y : Int) : (Sx.advP l m ps b t x y).length ≤ ps.length + 1 := by
  unfold Sx.advP; split
  · rw [List.length_take]; omega
  · split
    · simp
    · omega
set_option maxRecDepth 100000 in
set_option maxHeartbeats 2000000 in
theorem after_bad (o l m : Int) (A : Option Addr) (c : Nat) (b t x : Int) (ps : List (Int × Int)) (w : World) (hr : PR w w.heap.size A ps) (hz : ps.length ≤ 1048576) (hk : Sx.kOK o l m ps b t = false) :
    Calls Try.prog 17 #[kv o l m A ps.length c b t, .int .i64 x] w fun e w' => ∃ A' c', e = .returned (.tuple #[kv (Sx.ifA (Sx.aftOK o l m ps b t x) o) (Sx.ifA (Sx.aftOK o l m ps b t x) l) (Sx.ifA (Sx.aftOK o l m ps b t x) m) A' (Sx.ifP (Sx.aftOK o l m ps b t x) (Sx.stepP l m ps b t x)).length c' (Sx.ifA (Sx.aftOK o l m ps b t x) b) (Sx.ifA (Sx.aftOK o l m ps b t x) (Sx.advT l x)), .bool (Sx.aftOK o l m ps b t x)]) ∧ OwnP w' w.heap.size A' (Sx.ifP (Sx.aftOK o l m ps b t x) (Sx.stepP l m ps b t x)) ∧ Below w.heap.size w w' := by
  obtain ⟨i0, hi0, hz0, hz1, hz2⟩ := info_parts try_infoP
  have B0 : Below w.heap.size w ((w.alloc (.cells #[.int .i64 o, .int .i64 l, .int .i64 m, .slice A ps.length c, .int .i64 b, .int .i64 t] 31)).alloc (.cells #[.int .i64 0, .int .i64 0, .int .i64 0, .slice none 0 0, .int .i64 0, .int .i64 0] 31)) := ((Below.refl _ _).alloc (Nat.le_refl _) _).alloc (by simp) _
  have K0 := (Blk.new w 31 #[.int .i64 o, .int .i64 l, .int .i64 m, .slice A ps.length c, .int .i64 b, .int .i64 t]).alloc (.cells #[.int .i64 0, .int .i64 0, .int .i64 0, .slice none 0 0, .int .i64 0, .int .i64 0] 31)
  have R0 := blk_new2 w (.cells #[.int .i64 o, .int .i64 l, .int .i64 m, .slice A ps.length c, .int .i64 b, .int .i64 t] 31) 31 #[.int .i64 0, .int .i64 0, .int .i64 0, .slice none 0 0, .int .i64 0, .int .i64 0]
  have a0 : ((w.alloc (.cells #[.int .i64 o, .int .i64 l, .int .i64 m, .slice A ps.length c, .int .i64 b, .int .i64 t] 31)).alloc (.cells #[.int .i64 0, .int .i64 0, .int .i64 0, .slice none 0 0, .int .i64 0, .int .i64 0] 31)).cell? ⟨w.heap.size, 0, none⟩ = some (.int .i64 o) := K0.cell 0
  have a1 : ((w.alloc (.cells #[.int .i64 o, .int .i64 l, .int .i64 m, .slice A ps.length c, .int .i64 b, .int .i64 t] 31)).alloc (.cells #[.int .i64 0, .int .i64 0, .int .i64 0, .slice none 0 0, .int .i64 0, .int .i64 0] 31)).cell? ⟨w.heap.size, 1, none⟩ = some (.int .i64 l) := K0.cell 1
  have a2 : ((w.alloc (.cells #[.int .i64 o, .int .i64 l, .int .i64 m, .slice A ps.length c, .int .i64 b, .int .i64 t] 31)).alloc (.cells #[.int .i64 0, .int .i64 0, .int .i64 0, .slice none 0 0, .int .i64 0, .int .i64 0] 31)).cell? ⟨w.heap.size, 2, none⟩ = some (.int .i64 m) := K0.cell 2
  have a3 : ((w.alloc (.cells #[.int .i64 o, .int .i64 l, .int .i64 m, .slice A ps.length c, .int .i64 b, .int .i64 t] 31)).alloc (.cells #[.int .i64 0, .int .i64 0, .int .i64 0, .slice none 0 0, .int .i64 0, .int .i64 0] 31)).cell? ⟨w.heap.size, 3, none⟩ = some (.slice A ps.length c) := K0.cell 3
  have a4 : ((w.alloc (.cells #[.int .i64 o, .int .i64 l, .int .i64 m, .slice A ps.length c, .int .i64 b, .int .i64 t] 31)).alloc (.cells #[.int .i64 0, .int .i64 0, .int .i64 0, .slice none 0 0, .int .i64 0, .int .i64 0] 31)).cell? ⟨w.heap.size, 4, none⟩ = some (.int .i64 b) := K0.cell 4
  have a5 : ((w.alloc (.cells #[.int .i64 o, .int .i64 l, .int .i64 m, .slice A ps.length c, .int .i64 b, .int .i64 t] 31)).alloc (.cells #[.int .i64 0, .int .i64 0, .int .i64 0, .slice none 0 0, .int .i64 0, .int .i64 0] 31)).cell? ⟨w.heap.size, 5, none⟩ = some (.int .i64 t) := K0.cell 5
  have CV := impl_KnownValid o l m A c b t ps ((w.alloc (.cells #[.int .i64 o, .int .i64 l, .int .i64 m, .slice A ps.length c, .int .i64 b, .int .i64 t] 31)).alloc (.cells #[.int .i64 0, .int .i64 0, .int .i64 0, .slice none 0 0, .int .i64 0, .int .i64 0] 31)) (hr.keep B0.size B0) hz
  rw [hk] at CV
  have CV := hide CV
  have HA := Sx.aft_no (x := x) (.inl hk)
  clear hk
  have HE := hide (show Ending.returned (.tuple #[kv 0 0 0 none 0 0 0 0, .bool false]) = .returned (.tuple #[kv (Sx.ifA (Sx.aftOK o l m ps b t x) o) (Sx.ifA (Sx.aftOK o l m ps b t x) l) (Sx.ifA (Sx.aftOK o l m ps b t x) m) none (Sx.ifP (Sx.aftOK o l m ps b t x) (Sx.stepP l m ps b t x)).length 0 (Sx.ifA (Sx.aftOK o l m ps b t x) b) (Sx.ifA (Sx.aftOK o l m ps b t x) (Sx.advT l x)), .bool (Sx.aftOK o l m ps b t x)]) by rw [HA]; rfl)
  have HO : Hid (∀ W, OwnP W w.heap.size none (Sx.ifP (Sx.aftOK o l m ps b t x) (Sx.stepP l m ps b t x))) := fun W => .inl (by rw [HA]; rfl)
  clear HA
  go_enter Try.func17, Try.ntmps17
  go_wp2_with fail
  refine (unhide CV).mono ?_; rintro e w1 ⟨rfl, hb1⟩
  have B1 := below_next (Nat.le_refl _) B0 hb1
  have K1 := K0.below hb1 K0.lt
  have R1 := R0.below hb1 R0.lt
  clear B0 K0 R0 hb1 a0 a1 a2 a3 a4 a5
  have a0 : w1.cell? ⟨w.heap.size, 0, none⟩ = some (.int .i64 o) := K1.cell 0
  have a1 : w1.cell? ⟨w.heap.size, 1, none⟩ = some (.int .i64 l) := K1.cell 1
  have a2 : w1.cell? ⟨w.heap.size, 2, none⟩ = some (.int .i64 m) := K1.cell 2
  have a3 : w1.cell? ⟨w.heap.size, 3, none⟩ = some (.slice A ps.length c) := K1.cell 3
  have a4 : w1.cell? ⟨w.heap.size, 4, none⟩ = some (.int .i64 b) := K1.cell 4
  have a5 : w1.cell? ⟨w.heap.size, 5, none⟩ = some (.int .i64 t) := K1.cell 5
  have c0 : w1.cell? ⟨(w.heap.size + 1), 0, none⟩ = some (.int .i64 0) := R1.cell 0
  have c1 : w1.cell? ⟨(w.heap.size + 1), 1, none⟩ = some (.int .i64 0) := R1.cell 1
  have c2 : w1.cell? ⟨(w.heap.size + 1), 2, none⟩ = some (.int .i64 0) := R1.cell 2
  have c3 : w1.cell? ⟨(w.heap.size + 1), 3, none⟩ = some (.slice none 0 0) := R1.cell 3
  have c4 : w1.cell? ⟨(w.heap.size + 1), 4, none⟩ = some (.int .i64 0) := R1.cell 4
  have c5 : w1.cell? ⟨(w.heap.size + 1), 5, none⟩ = some (.int .i64 0) := R1.cell 5
  have fc0 := R1.frozen 0
  have fc1 := R1.frozen 1
  have fc2 := R1.frozen 2
  have fc3 := R1.frozen 3
  have fc4 := R1.frozen 4
  have fc5 := R1.frozen 5
  have BW := belowSet (belowSet (belowSet (belowSet (belowSet (belowSet B1 (i := 0) (Nat.le_succ w.heap.size) (.int .i64 0)) (i := 1) (Nat.le_succ w.heap.size) (.int .i64 0)) (i := 2) (Nat.le_succ w.heap.size) (.int .i64 0)) (i := 3) (Nat.le_succ w.heap.size) (.slice none 0 0)) (i := 4) (Nat.le_succ w.heap.size) (.int .i64 0)) (i := 5) (Nat.le_succ w.heap.size) (.int .i64 0)
  have q := blk6_set R1 (.int .i64 0) (.int .i64 0) (.int .i64 0) (.slice none 0 0) (.int .i64 0) (.int .i64 0)
  clear R1 K1 B1
  go_wp2_with fail
  have q0 := q.cell 0
  have q1 := q.cell 1
  have q2 := q.cell 2
  have q3 := q.cell 3
  have q4 := q.cell 4
  have q5 := q.cell 5
  exact bodyPost_ret (v := .tuple #[kv 0 0 0 none 0 0 0 0, .bool false]) (by simp [results, Try.results17, go_sem, q0, q1, q2, q3, q4, q5]) rfl ⟨none, 0, HE.out, HO.out _, BW⟩

set_option maxRecDepth 100000 in
set_option maxHeartbeats 2000000 in
theorem after_far (o l m : Int) (A : Option Addr) (c : Nat) (b t x : Int) (ps : List (Int × Int)) (w : World) (hr : PR w w.heap.size A ps) (hz : ps.length ≤ 1048576) (hk : Sx.kOK o l m ps b t = true) (hf : Sx.folB l m ps.length t x = false) :
    Calls Try.prog 17 #[kv o l m A ps.length c b t, .int .i64 x] w fun e w' => ∃ A' c', e = .returned (.tuple #[kv (Sx.ifA (Sx.aftOK o l m ps b t x) o) (Sx.ifA (Sx.aftOK o l m ps b t x) l) (Sx.ifA (Sx.aftOK o l m ps b t x) m) A' (Sx.ifP (Sx.aftOK o l m ps b t x) (Sx.stepP l m ps b t x)).length c' (Sx.ifA (Sx.aftOK o l m ps b t x) b) (Sx.ifA (Sx.aftOK o l m ps b t x) (Sx.advT l x)), .bool (Sx.aftOK o l m ps b t x)]) ∧ OwnP w' w.heap.size A' (Sx.ifP (Sx.aftOK o l m ps b t x) (Sx.stepP l m ps b t x)) ∧ Below w.heap.size w w' := by
  obtain ⟨i0, hi0, hz0, hz1, hz2⟩ := info_parts try_infoP
  have B0 : Below w.heap.size w ((w.alloc (.cells #[.int .i64 o, .int .i64 l, .int .i64 m, .slice A ps.length c, .int .i64 b, .int .i64 t] 31)).alloc (.cells #[.int .i64 0, .int .i64 0, .int .i64 0, .slice none 0 0, .int .i64 0, .int .i64 0] 31)) := ((Below.refl _ _).alloc (Nat.le_refl _) _).alloc (by simp) _
  have K0 := (Blk.new w 31 #[.int .i64 o, .int .i64 l, .int .i64 m, .slice A ps.length c, .int .i64 b, .int .i64 t]).alloc (.cells #[.int .i64 0, .int .i64 0, .int .i64 0, .slice none 0 0, .int .i64 0, .int .i64 0] 31)
  have R0 := blk_new2 w (.cells #[.int .i64 o, .int .i64 l, .int .i64 m, .slice A ps.length c, .int .i64 b, .int .i64 t] 31) 31 #[.int .i64 0, .int .i64 0, .int .i64 0, .slice none 0 0, .int .i64 0, .int .i64 0]
  have a0 : ((w.alloc (.cells #[.int .i64 o, .int .i64 l, .int .i64 m, .slice A ps.length c, .int .i64 b, .int .i64 t] 31)).alloc (.cells #[.int .i64 0, .int .i64 0, .int .i64 0, .slice none 0 0, .int .i64 0, .int .i64 0] 31)).cell? ⟨w.heap.size, 0, none⟩ = some (.int .i64 o) := K0.cell 0
  have a1 : ((w.alloc (.cells #[.int .i64 o, .int .i64 l, .int .i64 m, .slice A ps.length c, .int .i64 b, .int .i64 t] 31)).alloc (.cells #[.int .i64 0, .int .i64 0, .int .i64 0, .slice none 0 0, .int .i64 0, .int .i64 0] 31)).cell? ⟨w.heap.size, 1, none⟩ = some (.int .i64 l) := K0.cell 1
  have a2 : ((w.alloc (.cells #[.int .i64 o, .int .i64 l, .int .i64 m, .slice A ps.length c, .int .i64 b, .int .i64 t] 31)).alloc (.cells #[.int .i64 0, .int .i64 0, .int .i64 0, .slice none 0 0, .int .i64 0, .int .i64 0] 31)).cell? ⟨w.heap.size, 2, none⟩ = some (.int .i64 m) := K0.cell 2
  have a3 : ((w.alloc (.cells #[.int .i64 o, .int .i64 l, .int .i64 m, .slice A ps.length c, .int .i64 b, .int .i64 t] 31)).alloc (.cells #[.int .i64 0, .int .i64 0, .int .i64 0, .slice none 0 0, .int .i64 0, .int .i64 0] 31)).cell? ⟨w.heap.size, 3, none⟩ = some (.slice A ps.length c) := K0.cell 3
  have a4 : ((w.alloc (.cells #[.int .i64 o, .int .i64 l, .int .i64 m, .slice A ps.length c, .int .i64 b, .int .i64 t] 31)).alloc (.cells #[.int .i64 0, .int .i64 0, .int .i64 0, .slice none 0 0, .int .i64 0, .int .i64 0] 31)).cell? ⟨w.heap.size, 4, none⟩ = some (.int .i64 b) := K0.cell 4
  have a5 : ((w.alloc (.cells #[.int .i64 o, .int .i64 l, .int .i64 m, .slice A ps.length c, .int .i64 b, .int .i64 t] 31)).alloc (.cells #[.int .i64 0, .int .i64 0, .int .i64 0, .slice none 0 0, .int .i64 0, .int .i64 0] 31)).cell? ⟨w.heap.size, 5, none⟩ = some (.int .i64 t) := K0.cell 5
  have CV := impl_KnownValid o l m A c b t ps ((w.alloc (.cells #[.int .i64 o, .int .i64 l, .int .i64 m, .slice A ps.length c, .int .i64 b, .int .i64 t] 31)).alloc (.cells #[.int .i64 0, .int .i64 0, .int .i64 0, .slice none 0 0, .int .i64 0, .int .i64 0] 31)) (hr.keep B0.size B0) hz
  rw [hk] at CV
  have CV := hide CV
  obtain ⟨n0, n1, n2, n3, n4, n5⟩ := Sx.kOK_nums hk
  have h0 := (Sx.kOK_of hk).1
  have CF := hide (fun wx => impl_canFollow o l m A c b t x ps wx h0 n4 n5)
  have CC := hide (fun wx => by have := impl_ClearCode o l m wx; rwa [Sx.clear_yes h0] at this)
  have CE := hide (fun wx => by have := impl_EndCode o l m wx; rwa [Sx.end_yes h0] at this)
  have HM := Sx.can_mk l m ps.length t x
  rw [hf] at CF HM
  have hx : x ≠ Sx.two l := by
    rintro rfl
    have := Sx.great_bd l m ps.length t
    have := Sx.two_pos l
    simp only [Sx.folB, Bool.and_eq_false_iff, decide_eq_false_iff_not] at hf; omega
  have HA := Sx.aft_no (o := o) (b := b) (.inr ⟨hx, by rw [HM]; rfl⟩)
  clear hk hx hf HM CC CE h0 n0 n1 n2 n3 n4 n5
  have HE := hide (show Ending.returned (.tuple #[kv 0 0 0 none 0 0 0 0, .bool false]) = .returned (.tuple #[kv (Sx.ifA (Sx.aftOK o l m ps b t x) o) (Sx.ifA (Sx.aftOK o l m ps b t x) l) (Sx.ifA (Sx.aftOK o l m ps b t x) m) none (Sx.ifP (Sx.aftOK o l m ps b t x) (Sx.stepP l m ps b t x)).length 0 (Sx.ifA (Sx.aftOK o l m ps b t x) b) (Sx.ifA (Sx.aftOK o l m ps b t x) (Sx.advT l x)), .bool (Sx.aftOK o l m ps b t x)]) by rw [HA]; rfl)
  have HO : Hid (∀ W, OwnP W w.heap.size none (Sx.ifP (Sx.aftOK o l m ps b t x) (Sx.stepP l m ps b t x))) := fun W => .inl (by rw [HA]; rfl)
  clear HA
  go_enter Try.func17, Try.ntmps17
  go_wp2_with fail
  refine (unhide CV).mono ?_; rintro e w1 ⟨rfl, hb1⟩
  have B1 := below_next (Nat.le_refl _) B0 hb1
  have K1 := K0.below hb1 K0.lt
  have R1 := R0.below hb1 R0.lt
  clear B0 K0 R0 hb1 a0 a1 a2 a3 a4 a5
  have a0 : w1.cell? ⟨w.heap.size, 0, none⟩ = some (.int .i64 o) := K1.cell 0
  have a1 : w1.cell? ⟨w.heap.size, 1, none⟩ = some (.int .i64 l) := K1.cell 1
  have a2 : w1.cell? ⟨w.heap.size, 2, none⟩ = some (.int .i64 m) := K1.cell 2
  have a3 : w1.cell? ⟨w.heap.size, 3, none⟩ = some (.slice A ps.length c) := K1.cell 3
  have a4 : w1.cell? ⟨w.heap.size, 4, none⟩ = some (.int .i64 b) := K1.cell 4
  have a5 : w1.cell? ⟨w.heap.size, 5, none⟩ = some (.int .i64 t) := K1.cell 5
  go_wp2_with fail
  refine ((unhide CF) _).mono ?_; rintro e w2 ⟨rfl, hb2⟩
  have B2 := below_next (Nat.le_refl _) B1 hb2
  have K2 := K1.below hb2 K1.lt
  have R2 := R1.below hb2 R1.lt
  clear B1 K1 R1 hb2 a0 a1 a2 a3 a4 a5
  have a0 : w2.cell? ⟨w.heap.size, 0, none⟩ = some (.int .i64 o) := K2.cell 0
  have a1 : w2.cell? ⟨w.heap.size, 1, none⟩ = some (.int .i64 l) := K2.cell 1
  have a2 : w2.cell? ⟨w.heap.size, 2, none⟩ = some (.int .i64 m) := K2.cell 2
  have a3 : w2.cell? ⟨w.heap.size, 3, none⟩ = some (.slice A ps.length c) := K2.cell 3
  have a4 : w2.cell? ⟨w.heap.size, 4, none⟩ = some (.int .i64 b) := K2.cell 4
  have a5 : w2.cell? ⟨w.heap.size, 5, none⟩ = some (.int .i64 t) := K2.cell 5
  have c0 : w2.cell? ⟨(w.heap.size + 1), 0, none⟩ = some (.int .i64 0) := R2.cell 0
  have c1 : w2.cell? ⟨(w.heap.size + 1), 1, none⟩ = some (.int .i64 0) := R2.cell 1
  have c2 : w2.cell? ⟨(w.heap.size + 1), 2, none⟩ = some (.int .i64 0) := R2.cell 2
  have c3 : w2.cell? ⟨(w.heap.size + 1), 3, none⟩ = some (.slice none 0 0) := R2.cell 3
  have c4 : w2.cell? ⟨(w.heap.size + 1), 4, none⟩ = some (.int .i64 0) := R2.cell 4
  have c5 : w2.cell? ⟨(w.heap.size + 1), 5, none⟩ = some (.int .i64 0) := R2.cell 5
  have fc0 := R2.frozen 0
  have fc1 := R2.frozen 1
  have fc2 := R2.frozen 2
  have fc3 := R2.frozen 3
  have fc4 := R2.frozen 4
  have fc5 := R2.frozen 5
  have BW := belowSet (belowSet (belowSet (belowSet (belowSet (belowSet B2 (i := 0) (Nat.le_succ w.heap.size) (.int .i64 0)) (i := 1) (Nat.le_succ w.heap.size) (.int .i64 0)) (i := 2) (Nat.le_succ w.heap.size) (.int .i64 0)) (i := 3) (Nat.le_succ w.heap.size) (.slice none 0 0)) (i := 4) (Nat.le_succ w.heap.size) (.int .i64 0)) (i := 5) (Nat.le_succ w.heap.size) (.int .i64 0)
  have q := blk6_set R2 (.int .i64 0) (.int .i64 0) (.int .i64 0) (.slice none 0 0) (.int .i64 0) (.int .i64 0)
  clear R2 K2 B2
  go_wp2_with fail
  have q0 := q.cell 0
  have q1 := q.cell 1
  have q2 := q.cell 2
  have q3 := q.cell 3
  have q4 := q.cell 4
  have q5 := q.cell 5
  exact bodyPost_ret (v := .tuple #[kv 0 0 0 none 0 0 0 0, .bool false]) (by simp [results, Try.results17, go_sem, q0, q1, q2, q3, q4, q5]) rfl ⟨none, 0, HE.out, HO.out _, BW⟩

set_option maxRecDepth 100000 in
set_option maxHeartbeats 2000000 in
theorem after_end (o l m : Int) (A : Option Addr) (c : Nat) (b t x : Int) (ps : List (Int × Int)) (w : World) (hr : PR w w.heap.size A ps) (hz : ps.length ≤ 1048576) (hk : Sx.kOK o l m ps b t = true) (hf : Sx.folB l m ps.length t x = true) (hx : x = Sx.two l + 1) :
    Calls Try.prog 17 #[kv o l m A ps.length c b t, .int .i64 x] w fun e w' => ∃ A' c', e = .returned (.tuple #[kv (Sx.ifA (Sx.aftOK o l m ps b t x) o) (Sx.ifA (Sx.aftOK o l m ps b t x) l) (Sx.ifA (Sx.aftOK o l m ps b t x) m) A' (Sx.ifP (Sx.aftOK o l m ps b t x) (Sx.stepP l m ps b t x)).length c' (Sx.ifA (Sx.aftOK o l m ps b t x) b) (Sx.ifA (Sx.aftOK o l m ps b t x) (Sx.advT l x)), .bool (Sx.aftOK o l m ps b t x)]) ∧ OwnP w' w.heap.size A' (Sx.ifP (Sx.aftOK o l m ps b t x) (Sx.stepP l m ps b t x)) ∧ Below w.heap.size w w' := by
  obtain ⟨i0, hi0, hz0, hz1, hz2⟩ := info_parts try_infoP
  have B0 : Below w.heap.size w ((w.alloc (.cells #[.int .i64 o, .int .i64 l, .int .i64 m, .slice A ps.length c, .int .i64 b, .int .i64 t] 31)).alloc (.cells #[.int .i64 0, .int .i64 0, .int .i64 0, .slice none 0 0, .int .i64 0, .int .i64 0] 31)) := ((Below.refl _ _).alloc (Nat.le_refl _) _).alloc (by simp) _
  have K0 := (Blk.new w 31 #[.int .i64 o, .int .i64 l, .int .i64 m, .slice A ps.length c, .int .i64 b, .int .i64 t]).alloc (.cells #[.int .i64 0, .int .i64 0, .int .i64 0, .slice none 0 0, .int .i64 0, .int .i64 0] 31)
  have R0 := blk_new2 w (.cells #[.int .i64 o, .int .i64 l, .int .i64 m, .slice A ps.length c, .int .i64 b, .int .i64 t] 31) 31 #[.int .i64 0, .int .i64 0, .int .i64 0, .slice none 0 0, .int .i64 0, .int .i64 0]
  have a0 : ((w.alloc (.cells #[.int .i64 o, .int .i64 l, .int .i64 m, .slice A ps.length c, .int .i64 b, .int .i64 t] 31)).alloc (.cells #[.int .i64 0, .int .i64 0, .int .i64 0, .slice none 0 0, .int .i64 0, .int .i64 0] 31)).cell? ⟨w.heap.size, 0, none⟩ = some (.int .i64 o) := K0.cell 0
  have a1 : ((w.alloc (.cells #[.int .i64 o, .int .i64 l, .int .i64 m, .slice A ps.length c, .int .i64 b, .int .i64 t] 31)).alloc (.cells #[.int .i64 0, .int .i64 0, .int .i64 0, .slice none 0 0, .int .i64 0, .int .i64 0] 31)).cell? ⟨w.heap.size, 1, none⟩ = some (.int .i64 l) := K0.cell 1
  have a2 : ((w.alloc (.cells #[.int .i64 o, .int .i64 l, .int .i64 m, .slice A ps.length c, .int .i64 b, .int .i64 t] 31)).alloc (.cells #[.int .i64 0, .int .i64 0, .int .i64 0, .slice none 0 0, .int .i64 0, .int .i64 0] 31)).cell? ⟨w.heap.size, 2, none⟩ = some (.int .i64 m) := K0.cell 2
  have a3 : ((w.alloc (.cells #[.int .i64 o, .int .i64 l, .int .i64 m, .slice A ps.length c, .int .i64 b, .int .i64 t] 31)).alloc (.cells #[.int .i64 0, .int .i64 0, .int .i64 0, .slice none 0 0, .int .i64 0, .int .i64 0] 31)).cell? ⟨w.heap.size, 3, none⟩ = some (.slice A ps.length c) := K0.cell 3
  have a4 : ((w.alloc (.cells #[.int .i64 o, .int .i64 l, .int .i64 m, .slice A ps.length c, .int .i64 b, .int .i64 t] 31)).alloc (.cells #[.int .i64 0, .int .i64 0, .int .i64 0, .slice none 0 0, .int .i64 0, .int .i64 0] 31)).cell? ⟨w.heap.size, 4, none⟩ = some (.int .i64 b) := K0.cell 4
  have a5 : ((w.alloc (.cells #[.int .i64 o, .int .i64 l, .int .i64 m, .slice A ps.length c, .int .i64 b, .int .i64 t] 31)).alloc (.cells #[.int .i64 0, .int .i64 0, .int .i64 0, .slice none 0 0, .int .i64 0, .int .i64 0] 31)).cell? ⟨w.heap.size, 5, none⟩ = some (.int .i64 t) := K0.cell 5
  have CV := impl_KnownValid o l m A c b t ps ((w.alloc (.cells #[.int .i64 o, .int .i64 l, .int .i64 m, .slice A ps.length c, .int .i64 b, .int .i64 t] 31)).alloc (.cells #[.int .i64 0, .int .i64 0, .int .i64 0, .slice none 0 0, .int .i64 0, .int .i64 0] 31)) (hr.keep B0.size B0) hz
  rw [hk] at CV
  have CV := hide CV
  obtain ⟨n0, n1, n2, n3, n4, n5⟩ := Sx.kOK_nums hk
  have h0 := (Sx.kOK_of hk).1
  have CF := hide (fun wx => impl_canFollow o l m A c b t x ps wx h0 n4 n5)
  have CC := hide (fun wx => by have := impl_ClearCode o l m wx; rwa [Sx.clear_yes h0] at this)
  have CE := hide (fun wx => by have := impl_EndCode o l m wx; rwa [Sx.end_yes h0] at this)
  have HM := Sx.can_mk l m ps.length t x
  rw [hf] at CF HM
  have ee : (x == Sx.two l + 1) = true := by rw [beq_iff_eq]; exact hx
  have HA := Sx.aft_no (o := o) (b := b) (.inr ⟨(by omega : x ≠ Sx.two l), by rw [HM]; simp [hx]⟩)
  clear hk hx hf HM CC h0 n0 n1 n2 n3 n4 n5
  have HE := hide (show Ending.returned (.tuple #[kv 0 0 0 none 0 0 0 0, .bool false]) = .returned (.tuple #[kv (Sx.ifA (Sx.aftOK o l m ps b t x) o) (Sx.ifA (Sx.aftOK o l m ps b t x) l) (Sx.ifA (Sx.aftOK o l m ps b t x) m) none (Sx.ifP (Sx.aftOK o l m ps b t x) (Sx.stepP l m ps b t x)).length 0 (Sx.ifA (Sx.aftOK o l m ps b t x) b) (Sx.ifA (Sx.aftOK o l m ps b t x) (Sx.advT l x)), .bool (Sx.aftOK o l m ps b t x)]) by rw [HA]; rfl)
  have HO : Hid (∀ W, OwnP W w.heap.size none (Sx.ifP (Sx.aftOK o l m ps b t x) (Sx.stepP l m ps b t x))) := fun W => .inl (by rw [HA]; rfl)
  clear HA
  go_enter Try.func17, Try.ntmps17
  go_wp2_with fail
  refine (unhide CV).mono ?_; rintro e w1 ⟨rfl, hb1⟩
  have B1 := below_next (Nat.le_refl _) B0 hb1
  have K1 := K0.below hb1 K0.lt
  have R1 := R0.below hb1 R0.lt
  clear B0 K0 R0 hb1 a0 a1 a2 a3 a4 a5
  have a0 : w1.cell? ⟨w.heap.size, 0, none⟩ = some (.int .i64 o) := K1.cell 0
  have a1 : w1.cell? ⟨w.heap.size, 1, none⟩ = some (.int .i64 l) := K1.cell 1
  have a2 : w1.cell? ⟨w.heap.size, 2, none⟩ = some (.int .i64 m) := K1.cell 2
  have a3 : w1.cell? ⟨w.heap.size, 3, none⟩ = some (.slice A ps.length c) := K1.cell 3
  have a4 : w1.cell? ⟨w.heap.size, 4, none⟩ = some (.int .i64 b) := K1.cell 4
  have a5 : w1.cell? ⟨w.heap.size, 5, none⟩ = some (.int .i64 t) := K1.cell 5
  go_wp2_with fail
  refine ((unhide CF) _).mono ?_; rintro e w2 ⟨rfl, hb2⟩
  have B2 := below_next (Nat.le_refl _) B1 hb2
  have K2 := K1.below hb2 K1.lt
  have R2 := R1.below hb2 R1.lt
  clear B1 K1 R1 hb2 a0 a1 a2 a3 a4 a5
  have a0 : w2.cell? ⟨w.heap.size, 0, none⟩ = some (.int .i64 o) := K2.cell 0
  have a1 : w2.cell? ⟨w.heap.size, 1, none⟩ = some (.int .i64 l) := K2.cell 1
  have a2 : w2.cell? ⟨w.heap.size, 2, none⟩ = some (.int .i64 m) := K2.cell 2
  have a3 : w2.cell? ⟨w.heap.size, 3, none⟩ = some (.slice A ps.length c) := K2.cell 3
  have a4 : w2.cell? ⟨w.heap.size, 4, none⟩ = some (.int .i64 b) := K2.cell 4
  have a5 : w2.cell? ⟨w.heap.size, 5, none⟩ = some (.int .i64 t) := K2.cell 5
  go_wp2_with fail
  refine ((unhide CE) _).mono ?_; rintro e w3 ⟨rfl, hb3⟩
  have B3 := below_next (Nat.le_refl _) B2 hb3
  have K3 := K2.below hb3 K2.lt
  have R3 := R2.below hb3 R2.lt
  clear B2 K2 R2 hb3 a0 a1 a2 a3 a4 a5
  have a0 : w3.cell? ⟨w.heap.size, 0, none⟩ = some (.int .i64 o) := K3.cell 0
  have a1 : w3.cell? ⟨w.heap.size, 1, none⟩ = some (.int .i64 l) := K3.cell 1
  have a2 : w3.cell? ⟨w.heap.size, 2, none⟩ = some (.int .i64 m) := K3.cell 2
  have a3 : w3.cell? ⟨w.heap.size, 3, none⟩ = some (.slice A ps.length c) := K3.cell 3
  have a4 : w3.cell? ⟨w.heap.size, 4, none⟩ = some (.int .i64 b) := K3.cell 4
  have a5 : w3.cell? ⟨w.heap.size, 5, none⟩ = some (.int .i64 t) := K3.cell 5
  have c0 : w3.cell? ⟨(w.heap.size + 1), 0, none⟩ = some (.int .i64 0) := R3.cell 0
  have c1 : w3.cell? ⟨(w.heap.size + 1), 1, none⟩ = some (.int .i64 0) := R3.cell 1
  have c2 : w3.cell? ⟨(w.heap.size + 1), 2, none⟩ = some (.int .i64 0) := R3.cell 2
  have c3 : w3.cell? ⟨(w.heap.size + 1), 3, none⟩ = some (.slice none 0 0) := R3.cell 3
  have c4 : w3.cell? ⟨(w.heap.size + 1), 4, none⟩ = some (.int .i64 0) := R3.cell 4
  have c5 : w3.cell? ⟨(w.heap.size + 1), 5, none⟩ = some (.int .i64 0) := R3.cell 5
  have fc0 := R3.frozen 0
  have fc1 := R3.frozen 1
  have fc2 := R3.frozen 2
  have fc3 := R3.frozen 3
  have fc4 := R3.frozen 4
  have fc5 := R3.frozen 5
  have BW := belowSet (belowSet (belowSet (belowSet (belowSet (belowSet B3 (i := 0) (Nat.le_succ w.heap.size) (.int .i64 0)) (i := 1) (Nat.le_succ w.heap.size) (.int .i64 0)) (i := 2) (Nat.le_succ w.heap.size) (.int .i64 0)) (i := 3) (Nat.le_succ w.heap.size) (.slice none 0 0)) (i := 4) (Nat.le_succ w.heap.size) (.int .i64 0)) (i := 5) (Nat.le_succ w.heap.size) (.int .i64 0)
  have q := blk6_set R3 (.int .i64 0) (.int .i64 0) (.int .i64 0) (.slice none 0 0) (.int .i64 0) (.int .i64 0)
  clear R3 K3 B3
  go_wp2_with fail
  have q0 := q.cell 0
  have q1 := q.cell 1
  have q2 := q.cell 2
  have q3 := q.cell 3
  have q4 := q.cell 4
  have q5 := q.cell 5
  exact bodyPost_ret (v := .tuple #[kv 0 0 0 none 0 0 0 0, .bool false]) (by simp [results, Try.results17, go_sem, q0, q1, q2, q3, q4, q5]) rfl ⟨none, 0, HE.out, HO.out _, BW⟩

set_option maxRecDepth 100000 in
set_option maxHeartbeats 2000000 in
theorem after_clear (o l m : Int) (A : Option Addr) (c : Nat) (b t x : Int) (ps : List (Int × Int)) (w : World) (hr : PR w w.heap.size A ps) (hz : ps.length ≤ 1048576) (hk : Sx.kOK o l m ps b t = true) (hf : Sx.folB l m ps.length t x = true) (hx : x = Sx.two l) :
    Calls Try.prog 17 #[kv o l m A ps.length c b t, .int .i64 x] w fun e w' => ∃ A' c', e = .returned (.tuple #[kv (Sx.ifA (Sx.aftOK o l m ps b t x) o) (Sx.ifA (Sx.aftOK o l m ps b t x) l) (Sx.ifA (Sx.aftOK o l m ps b t x) m) A' (Sx.ifP (Sx.aftOK o l m ps b t x) (Sx.stepP l m ps b t x)).length c' (Sx.ifA (Sx.aftOK o l m ps b t x) b) (Sx.ifA (Sx.aftOK o l m ps b t x) (Sx.advT l x)), .bool (Sx.aftOK o l m ps b t x)]) ∧ OwnP w' w.heap.size A' (Sx.ifP (Sx.aftOK o l m ps b t x) (Sx.stepP l m ps b t x)) ∧ Below w.heap.size w w' := by
  obtain ⟨i0, hi0, hz0, hz1, hz2⟩ := info_parts try_infoP
  have B0 : Below w.heap.size w ((w.alloc (.cells #[.int .i64 o, .int .i64 l, .int .i64 m, .slice A ps.length c, .int .i64 b, .int .i64 t] 31)).alloc (.cells #[.int .i64 0, .int .i64 0, .int .i64 0, .slice none 0 0, .int .i64 0, .int .i64 0] 31)) := ((Below.refl _ _).alloc (Nat.le_refl _) _).alloc (by simp) _
  have K0 := (Blk.new w 31 #[.int .i64 o, .int .i64 l, .int .i64 m, .slice A ps.length c, .int .i64 b, .int .i64 t]).alloc (.cells #[.int .i64 0, .int .i64 0, .int .i64 0, .slice none 0 0, .int .i64 0, .int .i64 0] 31)
  have R0 := blk_new2 w (.cells #[.int .i64 o, .int .i64 l, .int .i64 m, .slice A ps.length c, .int .i64 b, .int .i64 t] 31) 31 #[.int .i64 0, .int .i64 0, .int .i64 0, .slice none 0 0, .int .i64 0, .int .i64 0]
  have a0 : ((w.alloc (.cells #[.int .i64 o, .int .i64 l, .int .i64 m, .slice A ps.length c, .int .i64 b, .int .i64 t] 31)).alloc (.cells #[.int .i64 0, .int .i64 0, .int .i64 0, .slice none 0 0, .int .i64 0, .int .i64 0] 31)).cell? ⟨w.heap.size, 0, none⟩ = some (.int .i64 o) := K0.cell 0
  have a1 : ((w.alloc (.cells #[.int .i64 o, .int .i64 l, .int .i64 m, .slice A ps.length c, .int .i64 b, .int .i64 t] 31)).alloc (.cells #[.int .i64 0, .int .i64 0, .int .i64 0, .slice none 0 0, .int .i64 0, .int .i64 0] 31)).cell? ⟨w.heap.size, 1, none⟩ = some (.int .i64 l) := K0.cell 1
  have a2 : ((w.alloc (.cells #[.int .i64 o, .int .i64 l, .int .i64 m, .slice A ps.length c, .int .i64 b, .int .i64 t] 31)).alloc (.cells #[.int .i64 0, .int .i64 0, .int .i64 0, .slice none 0 0, .int .i64 0, .int .i64 0] 31)).cell? ⟨w.heap.size, 2, none⟩ = some (.int .i64 m) := K0.cell 2
  have a3 : ((w.alloc (.cells #[.int .i64 o, .int .i64 l, .int .i64 m, .slice A ps.length c, .int .i64 b, .int .i64 t] 31)).alloc (.cells #[.int .i64 0, .int .i64 0, .int .i64 0, .slice none 0 0, .int .i64 0, .int .i64 0] 31)).cell? ⟨w.heap.size, 3, none⟩ = some (.slice A ps.length c) := K0.cell 3
  have a4 : ((w.alloc (.cells #[.int .i64 o, .int .i64 l, .int .i64 m, .slice A ps.length c, .int .i64 b, .int .i64 t] 31)).alloc (.cells #[.int .i64 0, .int .i64 0, .int .i64 0, .slice none 0 0, .int .i64 0, .int .i64 0] 31)).cell? ⟨w.heap.size, 4, none⟩ = some (.int .i64 b) := K0.cell 4
  have a5 : ((w.alloc (.cells #[.int .i64 o, .int .i64 l, .int .i64 m, .slice A ps.length c, .int .i64 b, .int .i64 t] 31)).alloc (.cells #[.int .i64 0, .int .i64 0, .int .i64 0, .slice none 0 0, .int .i64 0, .int .i64 0] 31)).cell? ⟨w.heap.size, 5, none⟩ = some (.int .i64 t) := K0.cell 5
  have CV := impl_KnownValid o l m A c b t ps ((w.alloc (.cells #[.int .i64 o, .int .i64 l, .int .i64 m, .slice A ps.length c, .int .i64 b, .int .i64 t] 31)).alloc (.cells #[.int .i64 0, .int .i64 0, .int .i64 0, .slice none 0 0, .int .i64 0, .int .i64 0] 31)) (hr.keep B0.size B0) hz
  rw [hk] at CV
  have CV := hide CV
  obtain ⟨n0, n1, n2, n3, n4, n5⟩ := Sx.kOK_nums hk
  have h0 := (Sx.kOK_of hk).1
  have CF := hide (fun wx => impl_canFollow o l m A c b t x ps wx h0 n4 n5)
  have CC := hide (fun wx => by have := impl_ClearCode o l m wx; rwa [Sx.clear_yes h0] at this)
  have CE := hide (fun wx => by have := impl_EndCode o l m wx; rwa [Sx.end_yes h0] at this)
  have HM := Sx.can_mk l m ps.length t x
  have nb0 := (Sx.kOK_of hk).2.2.1.1
  have nb1 := (Sx.kOK_of hk).2.2.1.2
  rw [hf] at CF
  have ee : (x == Sx.two l + 1) = false := by rw [beq_eq_false_iff_ne]; omega
  have ec : (x == Sx.two l) = true := by rw [beq_iff_eq]; exact hx
  have HA := hide (Sx.aft_yes hk (.inl hx))
  have HS := hide (Sx.step_clear (m := m) (b := b) (t := t) (ps := ps) 0 hx)
  have y0 : (0 : Int) ≤ 0 := Int.le_refl _
  have y1 : (0 : Int) < 256 := by omega
  clear hk hx hf HM n0 n1 n2 n3
  go_enter Try.func17, Try.ntmps17
  go_wp2_with fail
  refine (unhide CV).mono ?_; rintro e w1 ⟨rfl, hb1⟩
  have B1 := below_next (Nat.le_refl _) B0 hb1
  have K1 := K0.below hb1 K0.lt
  have R1 := R0.below hb1 R0.lt
  clear B0 K0 R0 hb1 a0 a1 a2 a3 a4 a5
  have a0 : w1.cell? ⟨w.heap.size, 0, none⟩ = some (.int .i64 o) := K1.cell 0
  have a1 : w1.cell? ⟨w.heap.size, 1, none⟩ = some (.int .i64 l) := K1.cell 1
  have a2 : w1.cell? ⟨w.heap.size, 2, none⟩ = some (.int .i64 m) := K1.cell 2
  have a3 : w1.cell? ⟨w.heap.size, 3, none⟩ = some (.slice A ps.length c) := K1.cell 3
  have a4 : w1.cell? ⟨w.heap.size, 4, none⟩ = some (.int .i64 b) := K1.cell 4
  have a5 : w1.cell? ⟨w.heap.size, 5, none⟩ = some (.int .i64 t) := K1.cell 5
  go_wp2_with fail
  refine ((unhide CF) _).mono ?_; rintro e w2 ⟨rfl, hb2⟩
  have B2 := below_next (Nat.le_refl _) B1 hb2
  have K2 := K1.below hb2 K1.lt
  have R2 := R1.below hb2 R1.lt
  clear B1 K1 R1 hb2 a0 a1 a2 a3 a4 a5
  have a0 : w2.cell? ⟨w.heap.size, 0, none⟩ = some (.int .i64 o) := K2.cell 0
  have a1 : w2.cell? ⟨w.heap.size, 1, none⟩ = some (.int .i64 l) := K2.cell 1
  have a2 : w2.cell? ⟨w.heap.size, 2, none⟩ = some (.int .i64 m) := K2.cell 2
  have a3 : w2.cell? ⟨w.heap.size, 3, none⟩ = some (.slice A ps.length c) := K2.cell 3
  have a4 : w2.cell? ⟨w.heap.size, 4, none⟩ = some (.int .i64 b) := K2.cell 4
  have a5 : w2.cell? ⟨w.heap.size, 5, none⟩ = some (.int .i64 t) := K2.cell 5
  go_wp2_with fail
  refine ((unhide CE) _).mono ?_; rintro e w3 ⟨rfl, hb3⟩
  have B3 := below_next (Nat.le_refl _) B2 hb3
  have K3 := K2.below hb3 K2.lt
  have R3 := R2.below hb3 R2.lt
  clear B2 K2 R2 hb3 a0 a1 a2 a3 a4 a5
  have a0 : w3.cell? ⟨w.heap.size, 0, none⟩ = some (.int .i64 o) := K3.cell 0
  have a1 : w3.cell? ⟨w.heap.size, 1, none⟩ = some (.int .i64 l) := K3.cell 1
  have a2 : w3.cell? ⟨w.heap.size, 2, none⟩ = some (.int .i64 m) := K3.cell 2
  have a3 : w3.cell? ⟨w.heap.size, 3, none⟩ = some (.slice A ps.length c) := K3.cell 3
  have a4 : w3.cell? ⟨w.heap.size, 4, none⟩ = some (.int .i64 b) := K3.cell 4
  have a5 : w3.cell? ⟨w.heap.size, 5, none⟩ = some (.int .i64 t) := K3.cell 5
  go_wp2_with fail
  refine ((unhide CC) _).mono ?_; rintro e w4 ⟨rfl, hb4⟩
  have B4 := below_next (Nat.le_refl _) B3 hb4
  have K4 := K3.below hb4 K3.lt
  have R4 := R3.below hb4 R3.lt
  clear B3 K3 R3 hb4 a0 a1 a2 a3 a4 a5
  have a0 : w4.cell? ⟨w.heap.size, 0, none⟩ = some (.int .i64 o) := K4.cell 0
  have a1 : w4.cell? ⟨w.heap.size, 1, none⟩ = some (.int .i64 l) := K4.cell 1
  have a2 : w4.cell? ⟨w.heap.size, 2, none⟩ = some (.int .i64 m) := K4.cell 2
  have a3 : w4.cell? ⟨w.heap.size, 3, none⟩ = some (.slice A ps.length c) := K4.cell 3
  have a4 : w4.cell? ⟨w.heap.size, 4, none⟩ = some (.int .i64 b) := K4.cell 4
  have a5 : w4.cell? ⟨w.heap.size, 5, none⟩ = some (.int .i64 t) := K4.cell 5
  go_wp2_with fail
  have CP := hide (impl_copyKnown o l m A c b t ps w4 (hr.keep B4.size B4) (by omega))
  have hs4 := R4.lt
  refine (unhide CP).mono ?_; rintro e w5 ⟨A1, c1, rfl, O1, hb5⟩
  have O1 := own_base O1 (by omega : w4.heap.size ≤ w4.heap.size + 2)
  have hl1 := O1.lt
  have hw5 := hb5.size
  have B5 := below_next (Nat.le_refl _) B4 hb5
  have K5 := K4.below hb5 K4.lt
  have R5 := R4.below hb5 R4.lt
  clear B4 K4 R4 hb5 a0 a1 a2 a3 a4 a5
  have a0 : w5.cell? ⟨w.heap.size, 0, none⟩ = some (.int .i64 o) := K5.cell 0
  have a1 : w5.cell? ⟨w.heap.size, 1, none⟩ = some (.int .i64 l) := K5.cell 1
  have a2 : w5.cell? ⟨w.heap.size, 2, none⟩ = some (.int .i64 m) := K5.cell 2
  have a3 : w5.cell? ⟨w.heap.size, 3, none⟩ = some (.slice A ps.length c) := K5.cell 3
  have a4 : w5.cell? ⟨w.heap.size, 4, none⟩ = some (.int .i64 b) := K5.cell 4
  have a5 : w5.cell? ⟨w.heap.size, 5, none⟩ = some (.int .i64 t) := K5.cell 5
  have CA := hide (impl_advance o l m A1 c1 b t x 0 ps w4.heap.size w5 O1 hw5 h0 n4 n5 nb0 nb1 y0 y1)
  clear CP O1
  go_wp2_with fail
  refine (unhide CA).mono ?_; rintro e w6 ⟨A2, c2, rfl, O2, G2⟩
  rw [ownBlock_slice] at hl1
  have hp1 : ∀ j, j < w4.heap.size → some j ≠ blkOf A1 := fun j hj e => Nat.lt_irrefl _ (Nat.lt_of_lt_of_le hj (hl1 j e.symm).1)
  have B6 := B5.grown G2 B5.size (fun g hg => Nat.le_trans (by omega) (hl1 g hg).1)
  have K6 := K5.grown G2 (hp1 _ (by omega))
  have R6 := R5.grown G2 (hp1 _ (by omega))
  have hlen := Sx.adv_len l m ps b t x 0
  have CQ := hide (impl_copyKnown o l m A2 c2 b (Sx.advT l x) _ w6 ((OwnP.of_own rfl O2).pr (Nat.le_refl _)) (by omega))
  clear CA O2 G2 hl1 hp1 B5 K5 R5 a0 a1 a2 a3 a4 a5
  generalize Sx.advP l m ps b t x 0 = P2 at *
  generalize hT : Sx.advT l x = T2 at *
  have HT := hide hT
  clear hT
  have hs6 := R6.lt
  go_wp2_with fail
  refine (unhide CQ).mono ?_; rintro e w7 ⟨A3, cc3, rfl, O3, hb7⟩
  have O3 := own_base O3 (by omega : w6.heap.size ≤ w6.heap.size + 2)
  have hl3 := O3.lt
  have B7 := below_next (Nat.le_refl _) B6 hb7
  have R7 := R6.below hb7 R6.lt
  clear CQ B6 K6 R6 hb7
  have c0 : w7.cell? ⟨(w.heap.size + 1), 0, none⟩ = some (.int .i64 0) := R7.cell 0
  have c1 : w7.cell? ⟨(w.heap.size + 1), 1, none⟩ = some (.int .i64 0) := R7.cell 1
  have c2 : w7.cell? ⟨(w.heap.size + 1), 2, none⟩ = some (.int .i64 0) := R7.cell 2
  have c3 : w7.cell? ⟨(w.heap.size + 1), 3, none⟩ = some (.slice none 0 0) := R7.cell 3
  have c4 : w7.cell? ⟨(w.heap.size + 1), 4, none⟩ = some (.int .i64 0) := R7.cell 4
  have c5 : w7.cell? ⟨(w.heap.size + 1), 5, none⟩ = some (.int .i64 0) := R7.cell 5
  have fc0 := R7.frozen 0
  have fc1 := R7.frozen 1
  have fc2 := R7.frozen 2
  have fc3 := R7.frozen 3
  have fc4 := R7.frozen 4
  have fc5 := R7.frozen 5
  have BW := belowSet (belowSet (belowSet (belowSet (belowSet (belowSet B7 (i := 0) (Nat.le_succ w.heap.size) (.int .i64 o)) (i := 1) (Nat.le_succ w.heap.size) (.int .i64 l)) (i := 2) (Nat.le_succ w.heap.size) (.int .i64 m)) (i := 3) (Nat.le_succ w.heap.size) (.slice A3 P2.length cc3)) (i := 4) (Nat.le_succ w.heap.size) (.int .i64 b)) (i := 5) (Nat.le_succ w.heap.size) (.int .i64 T2)
  have q := blk6_set R7 (.int .i64 o) (.int .i64 l) (.int .i64 m) (.slice A3 P2.length cc3) (.int .i64 b) (.int .i64 T2)
  have OW := O3.kept (only6 w7 (w.heap.size + 1) (.int .i64 o) (.int .i64 l) (.int .i64 m) (.slice A3 P2.length cc3) (.int .i64 b) (.int .i64 T2)) (.inr fun h => by have := hl3 _ h; omega)
  have OW := OwnP.of_own rfl (own_base OW (by omega : w.heap.size ≤ w6.heap.size))
  clear R7 B7 O3 hl3
  go_wp2_with fail
  have q0 := q.cell 0
  have q1 := q.cell 1
  have q2 := q.cell 2
  have q3 := q.cell 3
  have q4 := q.cell 4
  have q5 := q.cell 5
  exact bodyPost_ret (v := .tuple #[kv o l m A3 P2.length cc3 b T2, .bool true]) (by simp [results, Try.results17, go_sem, q0, q1, q2, q3, q4, q5]) rfl ⟨A3, cc3, (by rw [HA.out, HS.out]; first | rfl | (rw [HT.out]; rfl)), (by rw [HA.out, HS.out]; exact OW), BW⟩

set_option maxRecDepth 100000 in
set_option maxHeartbeats 2000000 in
theorem after_word (o l m : Int) (A : Option Addr) (c : Nat) (b t x : Int) (ps : List (Int × Int)) (w : World) (hr : PR w w.heap.size A ps) (hz : ps.length ≤ 1048576) (hk : Sx.kOK o l m ps b t = true) (hc : Sx.canB l m ps.length t x = true) :
    Calls Try.prog 17 #[kv o l m A ps.length c b t, .int .i64 x] w fun e w' => ∃ A' c', e = .returned (.tuple #[kv (Sx.ifA (Sx.aftOK o l m ps b t x) o) (Sx.ifA (Sx.aftOK o l m ps b t x) l) (Sx.ifA (Sx.aftOK o l m ps b t x) m) A' (Sx.ifP (Sx.aftOK o l m ps b t x) (Sx.stepP l m ps b t x)).length c' (Sx.ifA (Sx.aftOK o l m ps b t x) b) (Sx.ifA (Sx.aftOK o l m ps b t x) (Sx.advT l x)), .bool (Sx.aftOK o l m ps b t x)]) ∧ OwnP w' w.heap.size A' (Sx.ifP (Sx.aftOK o l m ps b t x) (Sx.stepP l m ps b t x)) ∧ Below w.heap.size w w' := by
  obtain ⟨i0, hi0, hz0, hz1, hz2⟩ := info_parts try_infoP
  have B0 : Below w.heap.size w ((w.alloc (.cells #[.int .i64 o, .int .i64 l, .int .i64 m, .slice A ps.length c, .int .i64 b, .int .i64 t] 31)).alloc (.cells #[.int .i64 0, .int .i64 0, .int .i64 0, .slice none 0 0, .int .i64 0, .int .i64 0] 31)) := ((Below.refl _ _).alloc (Nat.le_refl _) _).alloc (by simp) _
  have K0 := (Blk.new w 31 #[.int .i64 o, .int .i64 l, .int .i64 m, .slice A ps.length c, .int .i64 b, .int .i64 t]).alloc (.cells #[.int .i64 0, .int .i64 0, .int .i64 0, .slice none 0 0, .int .i64 0, .int .i64 0] 31)
  have R0 := blk_new2 w (.cells #[.int .i64 o, .int .i64 l, .int .i64 m, .slice A ps.length c, .int .i64 b, .int .i64 t] 31) 31 #[.int .i64 0, .int .i64 0, .int .i64 0, .slice none 0 0, .int .i64 0, .int .i64 0]
  have a0 : ((w.alloc (.cells #[.int .i64 o, .int .i64 l, .int .i64 m, .slice A ps.length c, .int .i64 b, .int .i64 t] 31)).alloc (.cells #[.int .i64 0, .int .i64 0, .int .i64 0, .slice none 0 0, .int .i64 0, .int .i64 0] 31)).cell? ⟨w.heap.size, 0, none⟩ = some (.int .i64 o) := K0.cell 0
  have a1 : ((w.alloc (.cells #[.int .i64 o, .int .i64 l, .int .i64 m, .slice A ps.length c, .int .i64 b, .int .i64 t] 31)).alloc (.cells #[.int .i64 0, .int .i64 0, .int .i64 0, .slice none 0 0, .int .i64 0, .int .i64 0] 31)).cell? ⟨w.heap.size, 1, none⟩ = some (.int .i64 l) := K0.cell 1
  have a2 : ((w.alloc (.cells #[.int .i64 o, .int .i64 l, .int .i64 m, .slice A ps.length c, .int .i64 b, .int .i64 t] 31)).alloc (.cells #[.int .i64 0, .int .i64 0, .int .i64 0, .slice none 0 0, .int .i64 0, .int .i64 0] 31)).cell? ⟨w.heap.size, 2, none⟩ = some (.int .i64 m) := K0.cell 2
  have a3 : ((w.alloc (.cells #[.int .i64 o, .int .i64 l, .int .i64 m, .slice A ps.length c, .int .i64 b, .int .i64 t] 31)).alloc (.cells #[.int .i64 0, .int .i64 0, .int .i64 0, .slice none 0 0, .int .i64 0, .int .i64 0] 31)).cell? ⟨w.heap.size, 3, none⟩ = some (.slice A ps.length c) := K0.cell 3
  have a4 : ((w.alloc (.cells #[.int .i64 o, .int .i64 l, .int .i64 m, .slice A ps.length c, .int .i64 b, .int .i64 t] 31)).alloc (.cells #[.int .i64 0, .int .i64 0, .int .i64 0, .slice none 0 0, .int .i64 0, .int .i64 0] 31)).cell? ⟨w.heap.size, 4, none⟩ = some (.int .i64 b) := K0.cell 4
  have a5 : ((w.alloc (.cells #[.int .i64 o, .int .i64 l, .int .i64 m, .slice A ps.length c, .int .i64 b, .int .i64 t] 31)).alloc (.cells #[.int .i64 0, .int .i64 0, .int .i64 0, .slice none 0 0, .int .i64 0, .int .i64 0] 31)).cell? ⟨w.heap.size, 5, none⟩ = some (.int .i64 t) := K0.cell 5
  have CV := impl_KnownValid o l m A c b t ps ((w.alloc (.cells #[.int .i64 o, .int .i64 l, .int .i64 m, .slice A ps.length c, .int .i64 b, .int .i64 t] 31)).alloc (.cells #[.int .i64 0, .int .i64 0, .int .i64 0, .slice none 0 0, .int .i64 0, .int .i64 0] 31)) (hr.keep B0.size B0) hz
  rw [hk] at CV
  have CV := hide CV
  obtain ⟨n0, n1, n2, n3, n4, n5⟩ := Sx.kOK_nums hk
  have h0 := (Sx.kOK_of hk).1
  have CF := hide (fun wx => impl_canFollow o l m A c b t x ps wx h0 n4 n5)
  have CC := hide (fun wx => by have := impl_ClearCode o l m wx; rwa [Sx.clear_yes h0] at this)
  have CE := hide (fun wx => by have := impl_EndCode o l m wx; rwa [Sx.end_yes h0] at this)
  have HM := Sx.can_mk l m ps.length t x
  have nb0 := (Sx.kOK_of hk).2.2.1.1
  have nb1 := (Sx.kOK_of hk).2.2.1.2
  have hcc := Sx.can_code hk hc
  rw [hc] at HM
  have HM2 := HM.symm
  simp only [Bool.and_eq_true, decide_eq_true_iff] at HM2
  obtain ⟨⟨hf, hx1⟩, hx2⟩ := HM2
  rw [hf] at CF
  have ee : (x == Sx.two l + 1) = false := by rw [beq_eq_false_iff_ne]; exact hx2
  have ec : (x == Sx.two l) = false := by rw [beq_eq_false_iff_ne]; exact hx1
  have HA := hide (Sx.aft_yes hk (.inr hc))
  have CW := hide (fun w2 (hb : Below w.heap.size w w2) => impl_wordText o l m A c b t x ps w2 (hr.keep hb.size hb) h0 n4 (Sx.kOK_of hk).2.2.2.1 hcc)
  have HL := (Sx.any_length l ps t x).1
  rw [← str_size] at HL
  obtain ⟨u, hu⟩ : ∃ u, u = str (Sx.anyW l ps t x) := ⟨_, rfl⟩
  rw [← hu] at CW HL
  have HS := hide (show Sx.stepP l m ps b t x = Sx.advP l m ps b t x (Sx.fstB u) by rw [hu]; rfl)
  have HF := hide (Sx.fst_of HL)
  obtain ⟨y0, y1⟩ := Sx.fst_bd u
  clear hk hc hcc hf hx1 hx2 HM hu n0 n1 n2 n3
  go_enter Try.func17, Try.ntmps17
  go_wp2_with fail
  refine (unhide CV).mono ?_; rintro e w1 ⟨rfl, hb1⟩
  have B1 := below_next (Nat.le_refl _) B0 hb1
  have K1 := K0.below hb1 K0.lt
  have R1 := R0.below hb1 R0.lt
  clear B0 K0 R0 hb1 a0 a1 a2 a3 a4 a5
  have a0 : w1.cell? ⟨w.heap.size, 0, none⟩ = some (.int .i64 o) := K1.cell 0
  have a1 : w1.cell? ⟨w.heap.size, 1, none⟩ = some (.int .i64 l) := K1.cell 1
  have a2 : w1.cell? ⟨w.heap.size, 2, none⟩ = some (.int .i64 m) := K1.cell 2
  have a3 : w1.cell? ⟨w.heap.size, 3, none⟩ = some (.slice A ps.length c) := K1.cell 3
  have a4 : w1.cell? ⟨w.heap.size, 4, none⟩ = some (.int .i64 b) := K1.cell 4
  have a5 : w1.cell? ⟨w.heap.size, 5, none⟩ = some (.int .i64 t) := K1.cell 5
  go_wp2_with fail
  refine ((unhide CF) _).mono ?_; rintro e w2 ⟨rfl, hb2⟩
  have B2 := below_next (Nat.le_refl _) B1 hb2
  have K2 := K1.below hb2 K1.lt
  have R2 := R1.below hb2 R1.lt
  clear B1 K1 R1 hb2 a0 a1 a2 a3 a4 a5
  have a0 : w2.cell? ⟨w.heap.size, 0, none⟩ = some (.int .i64 o) := K2.cell 0
  have a1 : w2.cell? ⟨w.heap.size, 1, none⟩ = some (.int .i64 l) := K2.cell 1
  have a2 : w2.cell? ⟨w.heap.size, 2, none⟩ = some (.int .i64 m) := K2.cell 2
  have a3 : w2.cell? ⟨w.heap.size, 3, none⟩ = some (.slice A ps.length c) := K2.cell 3
  have a4 : w2.cell? ⟨w.heap.size, 4, none⟩ = some (.int .i64 b) := K2.cell 4
  have a5 : w2.cell? ⟨w.heap.size, 5, none⟩ = some (.int .i64 t) := K2.cell 5
  go_wp2_with fail
  refine ((unhide CE) _).mono ?_; rintro e w3 ⟨rfl, hb3⟩
  have B3 := below_next (Nat.le_refl _) B2 hb3
  have K3 := K2.below hb3 K2.lt
  have R3 := R2.below hb3 R2.lt
  clear B2 K2 R2 hb3 a0 a1 a2 a3 a4 a5
  have a0 : w3.cell? ⟨w.heap.size, 0, none⟩ = some (.int .i64 o) := K3.cell 0
  have a1 : w3.cell? ⟨w.heap.size, 1, none⟩ = some (.int .i64 l) := K3.cell 1
  have a2 : w3.cell? ⟨w.heap.size, 2, none⟩ = some (.int .i64 m) := K3.cell 2
  have a3 : w3.cell? ⟨w.heap.size, 3, none⟩ = some (.slice A ps.length c) := K3.cell 3
  have a4 : w3.cell? ⟨w.heap.size, 4, none⟩ = some (.int .i64 b) := K3.cell 4
  have a5 : w3.cell? ⟨w.heap.size, 5, none⟩ = some (.int .i64 t) := K3.cell 5
  go_wp2_with fail
  refine ((unhide CC) _).mono ?_; rintro e w4 ⟨rfl, hb4⟩
  have B4 := below_next (Nat.le_refl _) B3 hb4
  have K4 := K3.below hb4 K3.lt
  have R4 := R3.below hb4 R3.lt
  clear B3 K3 R3 hb4 a0 a1 a2 a3 a4 a5
  have a0 : w4.cell? ⟨w.heap.size, 0, none⟩ = some (.int .i64 o) := K4.cell 0
  have a1 : w4.cell? ⟨w.heap.size, 1, none⟩ = some (.int .i64 l) := K4.cell 1
  have a2 : w4.cell? ⟨w.heap.size, 2, none⟩ = some (.int .i64 m) := K4.cell 2
  have a3 : w4.cell? ⟨w.heap.size, 3, none⟩ = some (.slice A ps.length c) := K4.cell 3
  have a4 : w4.cell? ⟨w.heap.size, 4, none⟩ = some (.int .i64 b) := K4.cell 4
  have a5 : w4.cell? ⟨w.heap.size, 5, none⟩ = some (.int .i64 t) := K4.cell 5
  go_wp2_with fail
  refine ((unhide CW) _ B4).mono ?_; rintro e w5 ⟨rfl, hb5⟩
  have B5 := below_next (Nat.le_refl _) B4 hb5
  have K5 := K4.below hb5 K4.lt
  have R5 := R4.below hb5 R4.lt
  clear B4 K4 R4 hb5 a0 a1 a2 a3 a4 a5
  have a0 : w5.cell? ⟨w.heap.size, 0, none⟩ = some (.int .i64 o) := K5.cell 0
  have a1 : w5.cell? ⟨w.heap.size, 1, none⟩ = some (.int .i64 l) := K5.cell 1
  have a2 : w5.cell? ⟨w.heap.size, 2, none⟩ = some (.int .i64 m) := K5.cell 2
  have a3 : w5.cell? ⟨w.heap.size, 3, none⟩ = some (.slice A ps.length c) := K5.cell 3
  have a4 : w5.cell? ⟨w.heap.size, 4, none⟩ = some (.int .i64 b) := K5.cell 4
  have a5 : w5.cell? ⟨w.heap.size, 5, none⟩ = some (.int .i64 t) := K5.cell 5
  go_wp2_with fail
  rw [← HF.out]
  have CP := hide (impl_copyKnown o l m A c b t ps w5 (hr.keep B5.size B5) (by omega))
  have hs5 := R5.lt
  refine (unhide CP).mono ?_; rintro e w6 ⟨A1, c1, rfl, O1, hb6⟩
  have O1 := own_base O1 (by omega : w5.heap.size ≤ w5.heap.size + 2)
  have hl1 := O1.lt
  have hw6 := hb6.size
  have B6 := below_next (Nat.le_refl _) B5 hb6
  have K6 := K5.below hb6 K5.lt
  have R6 := R5.below hb6 R5.lt
  clear B5 K5 R5 hb6 a0 a1 a2 a3 a4 a5
  have a0 : w6.cell? ⟨w.heap.size, 0, none⟩ = some (.int .i64 o) := K6.cell 0
  have a1 : w6.cell? ⟨w.heap.size, 1, none⟩ = some (.int .i64 l) := K6.cell 1
  have a2 : w6.cell? ⟨w.heap.size, 2, none⟩ = some (.int .i64 m) := K6.cell 2
  have a3 : w6.cell? ⟨w.heap.size, 3, none⟩ = some (.slice A ps.length c) := K6.cell 3
  have a4 : w6.cell? ⟨w.heap.size, 4, none⟩ = some (.int .i64 b) := K6.cell 4
  have a5 : w6.cell? ⟨w.heap.size, 5, none⟩ = some (.int .i64 t) := K6.cell 5
  have CA := hide (impl_advance o l m A1 c1 b t x (Sx.fstB u) ps w5.heap.size w6 O1 hw6 h0 n4 n5 nb0 nb1 y0 y1)
  clear CP O1
  go_wp2_with fail
  refine (unhide CA).mono ?_; rintro e w7 ⟨A2, c2, rfl, O2, G2⟩
  rw [ownBlock_slice] at hl1
  have hp1 : ∀ j, j < w5.heap.size → some j ≠ blkOf A1 := fun j hj e => Nat.lt_irrefl _ (Nat.lt_of_lt_of_le hj (hl1 j e.symm).1)
  have B7 := B6.grown G2 B6.size (fun g hg => Nat.le_trans (by omega) (hl1 g hg).1)
  have K7 := K6.grown G2 (hp1 _ (by omega))
  have R7 := R6.grown G2 (hp1 _ (by omega))
  have hlen := Sx.adv_len l m ps b t x (Sx.fstB u)
  have CQ := hide (impl_copyKnown o l m A2 c2 b (Sx.advT l x) _ w7 ((OwnP.of_own rfl O2).pr (Nat.le_refl _)) (by omega))
  clear CA O2 G2 hl1 hp1 B6 K6 R6 a0 a1 a2 a3 a4 a5
  generalize Sx.advP l m ps b t x (Sx.fstB u) = P2 at *
  generalize hT : Sx.advT l x = T2 at *
  have HT := hide hT
  clear hT
  have hs7 := R7.lt
  go_wp2_with fail
  refine (unhide CQ).mono ?_; rintro e w8 ⟨A3, cc3, rfl, O3, hb8⟩
  have O3 := own_base O3 (by omega : w7.heap.size ≤ w7.heap.size + 2)
  have hl3 := O3.lt
  have B8 := below_next (Nat.le_refl _) B7 hb8
  have R8 := R7.below hb8 R7.lt
  clear CQ B7 K7 R7 hb8
  have c0 : w8.cell? ⟨(w.heap.size + 1), 0, none⟩ = some (.int .i64 0) := R8.cell 0
  have c1 : w8.cell? ⟨(w.heap.size + 1), 1, none⟩ = some (.int .i64 0) := R8.cell 1
  have c2 : w8.cell? ⟨(w.heap.size + 1), 2, none⟩ = some (.int .i64 0) := R8.cell 2
  have c3 : w8.cell? ⟨(w.heap.size + 1), 3, none⟩ = some (.slice none 0 0) := R8.cell 3
  have c4 : w8.cell? ⟨(w.heap.size + 1), 4, none⟩ = some (.int .i64 0) := R8.cell 4
  have c5 : w8.cell? ⟨(w.heap.size + 1), 5, none⟩ = some (.int .i64 0) := R8.cell 5
  have fc0 := R8.frozen 0
  have fc1 := R8.frozen 1
  have fc2 := R8.frozen 2
  have fc3 := R8.frozen 3
  have fc4 := R8.frozen 4
  have fc5 := R8.frozen 5
  have BW := belowSet (belowSet (belowSet (belowSet (belowSet (belowSet B8 (i := 0) (Nat.le_succ w.heap.size) (.int .i64 o)) (i := 1) (Nat.le_succ w.heap.size) (.int .i64 l)) (i := 2) (Nat.le_succ w.heap.size) (.int .i64 m)) (i := 3) (Nat.le_succ w.heap.size) (.slice A3 P2.length cc3)) (i := 4) (Nat.le_succ w.heap.size) (.int .i64 b)) (i := 5) (Nat.le_succ w.heap.size) (.int .i64 T2)
  have q := blk6_set R8 (.int .i64 o) (.int .i64 l) (.int .i64 m) (.slice A3 P2.length cc3) (.int .i64 b) (.int .i64 T2)
  have OW := O3.kept (only6 w8 (w.heap.size + 1) (.int .i64 o) (.int .i64 l) (.int .i64 m) (.slice A3 P2.length cc3) (.int .i64 b) (.int .i64 T2)) (.inr fun h => by have := hl3 _ h; omega)
  have OW := OwnP.of_own rfl (own_base OW (by omega : w.heap.size ≤ w7.heap.size))
  clear R8 B8 O3 hl3
  go_wp2_with fail
  have q0 := q.cell 0
  have q1 := q.cell 1
  have q2 := q.cell 2
  have q3 := q.cell 3
  have q4 := q.cell 4
  have q5 := q.cell 5
  exact bodyPost_ret (v := .tuple #[kv o l m A3 P2.length cc3 b T2, .bool true]) (by simp [results, Try.results17, go_sem, q0, q1, q2, q3, q4, q5]) rfl ⟨A3, cc3, (by rw [HA.out, HS.out]; first | rfl | (rw [HT.out]; rfl)), (by rw [HA.out, HS.out]; exact OW), BW⟩

set_option maxRecDepth 100000 in
set_option maxHeartbeats 2000000 in
theorem impl_After (o l m : Int) (A : Option Addr) (c : Nat) (b t x : Int) (ps : List (Int × Int)) (w : World) (hr : PR w w.heap.size A ps) (hz : ps.length ≤ 1048576) :
    Calls Try.prog 17 #[kv o l m A ps.length c b t, .int .i64 x] w fun e w' => ∃ A' c', e = .returned (.tuple #[kv (Sx.ifA (Sx.aftOK o l m ps b t x) o) (Sx.ifA (Sx.aftOK o l m ps b t x) l) (Sx.ifA (Sx.aftOK o l m ps b t x) m) A' (Sx.ifP (Sx.aftOK o l m ps b t x) (Sx.stepP l m ps b t x)).length c' (Sx.ifA (Sx.aftOK o l m ps b t x) b) (Sx.ifA (Sx.aftOK o l m ps b t x) (Sx.advT l x)), .bool (Sx.aftOK o l m ps b t x)]) ∧ OwnP w' w.heap.size A' (Sx.ifP (Sx.aftOK o l m ps b t x) (Sx.stepP l m ps b t x)) ∧ Below w.heap.size w w' := by
  by_cases hk : Sx.kOK o l m ps b t = true
  · by_cases hf : Sx.folB l m ps.length t x = true
    · by_cases hx : x = Sx.two l
      · exact after_clear o l m A c b t x ps w hr hz hk hf hx
      · by_cases hx2 : x = Sx.two l + 1
        · exact after_end o l m A c b t x ps w hr hz hk hf hx2
        · exact after_word o l m A c b t x ps w hr hz hk (by rw [Sx.can_mk, hf]; simp [hx, hx2])
    · exact after_far o l m A c b t x ps w hr hz hk (by simpa using hf)
  · exact after_bad o l m A c b t x ps w hr hz (by simpa using hk)

end Go.Proofs.Ytegfcpdkehgdpaa

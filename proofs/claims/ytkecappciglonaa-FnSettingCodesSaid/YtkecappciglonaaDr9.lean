/- The walks of the drawn data. Conditions: a slice of at most 1048576 bytes. -/
import Derived.Test.YtkecappciglonaaDr8
import Derived.Test.YtkecappciglonaaDr6
import Derived.Test.YtkecappciglonaaPlw
import Derived.Test.YtkecappciglonaaCd
namespace Go.Proofs.Ytkecappciglonaa
open Go.RowKit

theorem own_shape {w : World} {base n size : Nat} {e : TypeId} {v : Value} {xs : List Value} (h : w.ownsRow base e size v n xs) : ∃ A c, v = .slice A n c ∧ (0 < n → ∃ g, A = some ⟨g, 0, none⟩) := by
  rcases Nat.eq_zero_or_pos n with h0 | h0
  · subst h0
    rcases h.2 with ⟨rfl, _⟩ | ⟨g, cap, cur, rfl, _⟩
    · exact ⟨none, 0, rfl, fun h => absurd h (by omega)⟩
    · exact ⟨_, cap, rfl, fun h => absurd h (by omega)⟩
  · obtain ⟨g, cap, hv, _, _⟩ := h.form h0
    exact ⟨_, cap, hv, fun _ => ⟨g, rfl⟩⟩
theorem own_ptr {w : World} {base n size c : Nat} {e : TypeId} {A : Option Addr} {xs : List Value} (h : w.ownsRow base e size (.slice A n c) n xs) : 0 < n → ∃ g, A = some ⟨g, 0, none⟩ := fun h0 => by
  obtain ⟨A', c', hv, hA⟩ := own_shape h
  injection hv with h1 _ _
  rw [h1]; exact hA h0
theorem bvals_at (L : List UInt8) (k : Nat) (h : k < L.length) : (bvals L)[k]? = some (.int .u8 ((L[k]).toNat : Int)) := by simp [bvals, h]
theorem cell_own {w : World} {base g c : Nat} {e : TypeId} {L : List UInt8} (h : w.ownsRow base e 1 (.slice (some ⟨g, 0, none⟩) L.length c) L.length (bvals L)) (k : Nat) (hk : k < L.length) : ∃ b : Int, 0 ≤ b ∧ b < 256 ∧ w.cell? ⟨g, k, none⟩ = some (.int .u8 b) :=
  ⟨_, Int.natCast_nonneg _, by have := (L[k]).toNat_lt; omega, (h.cellAt k (by simpa using hk)).trans (bvals_at L k hk)⟩
theorem rem_byte {x P : Int} (x0 : 0 ≤ x) (p0 : 1 ≤ P) (p1 : P ≤ 1024) (p2 : P ≤ 256) : ∃ q : Int, x % P = q ∧ x.tmod P = q ∧ 0 ≤ q ∧ q < 256 ∧ IntKind.u8.wrap q = q := by
  have h0 : 0 ≤ x % P := Int.emod_nonneg _ (by omega)
  have h1 : x % P < P := Int.emod_lt_of_pos _ (by omega)
  exact ⟨x % P, rfl, Int.tmod_eq_emod_of_nonneg x0, h0, by omega, by rw [IntKind.wrap_u8]; omega⟩
theorem least_of {v t : Int} (h0 : 1 ≤ v) (h1 : 1 ≤ t) (h2 : t ≤ 256) : ∃ P : Int, min v t = P ∧ 1 ≤ P ∧ P ≤ 256 := by
  exact ⟨_, rfl, by omega, by omega⟩

theorem run_blk0 {w : World} {b : Nat} {t : TypeId} (h : Blk w b t #[.int .u8 0]) : (convert 22 9 (.slice (some ⟨b, 0, none⟩) 1 1)).run Try.prog w = .ok (.string (str [0])) w := by
  refine run_convert_bytes_back w 22 9 5 ⟨b, 0, none⟩ 1 [0] Try.underlying22 Try.underlying5 Try.underlying9 fun j hj => ?_
  have : j = 0 := by simpa using hj
  subst this
  exact h.cell 0
theorem blk_new2 (w : World) (o : Obj) (t : TypeId) (cs : Array Value) : Blk ((w.alloc o).alloc (.cells cs t)) (w.heap.size + 1) t cs := by
  have := Blk.new (w.alloc o) t cs
  rwa [World.size_alloc] at this
/-- What num ends in within l1Wild. -/
def WildPost (B g p : Nat) (w : World) (e : Ending) (w' : World) : Prop := ∃ N : Nat, e = .returned (.int .i64 N) ∧ N ≤ 2001 ∧ Rd w' B g (p + 1) ∧ w.grownBy w' (some g)
theorem wild_num {B g p b : Nat} {w wx : World} (h : Rd wx B g p) (hp : p ≤ 9900000) (hb : Blk wx b 3 #[.int .i64 2000, .int .i64 2001]) (hne : b ≠ g) (hx : Below w.heap.size w wx) :
    Calls Try.prog 67 #[.pointer (some ⟨g, 0, none⟩), .slice (some ⟨b, 0, none⟩) 2 2] wx fun e w' => WildPost B g p w e w' ∧ wx.grownBy w' (some g) := by
  refine (rd_num B g p b 2 2 (IntIs fun x => x = 2000 ∨ x = 2001) wx h (by omega) (by omega) (by omega) hne fun i hi => ?_).mono ?_
  · match i, hi with
    | 0, _ => exact ⟨2000, ⟨_, rfl, .inl rfl⟩, hb.cell 0⟩
    | 1, _ => exact ⟨2001, ⟨_, rfl, .inr rfl⟩, hb.cell 1⟩
  · rintro e w' ⟨v, rfl, ⟨x, rfl, hx2⟩, hr, hg⟩
    refine ⟨⟨x.toNat, ?_, by omega, hr, grown_trans' (below_grownBy hx (some g)) hg⟩, hg⟩
    rw [show ((x.toNat : Nat) : Int) = x from by omega]
theorem wild_A {B g p : Nat} (w : World) (h : Rd w B g p) (hp : p ≤ 9900000) :
    Calls Try.prog 67 #[.pointer (some ⟨g, 0, none⟩), .slice (some ⟨w.heap.size, 0, none⟩) 2 2] ((w.alloc (.cells #[.int .i64 2000, .int .i64 2001] 3)).drew) (WildPost B g p w) := by
  have hb : Below w.heap.size w (w.alloc (.cells #[.int .i64 2000, .int .i64 2001] 3)) := (Below.refl _ _).alloc (Nat.le_refl _) _
  have hl := h.lt
  exact (wild_num (w := w) (show Rd ((w.alloc (.cells #[.int .i64 2000, .int .i64 2001] 3)).drew) B g p from h.below hb.drew) hp (Blk.new w _ _).drew (by omega) hb.drew).mono fun _ _ h => h.1
theorem wild_B {B g p : Nat} (w : World) (h : Rd w B g p) (hp : p ≤ 9900000) :
    Calls Try.prog 67 #[.pointer (some ⟨g, 0, none⟩), .slice (some ⟨w.heap.size, 0, none⟩) 2 2] (((w.alloc (.cells #[.int .i64 2000, .int .i64 2001] 3)).alloc (.cells #[.int .u8 0] 5)).drew) fun e w' => ∃ N : Nat, e = .returned (.int .i64 N) ∧ N ≤ 2001 ∧ Rd w' B g (p + 1) ∧ w.grownBy w' (some g) ∧ (convert 22 9 (.slice (some ⟨w.heap.size + 1, 0, none⟩) 1 1)).run Try.prog w' = .ok (.string (str [0])) w' := by
  have hb : Below w.heap.size w ((w.alloc (.cells #[.int .i64 2000, .int .i64 2001] 3)).alloc (.cells #[.int .u8 0] 5)) := ((Below.refl _ _).alloc (Nat.le_refl _) _).alloc (by simp) _
  have hl := h.lt
  refine (wild_num (w := w) (show Rd (((w.alloc (.cells #[.int .i64 2000, .int .i64 2001] 3)).alloc (.cells #[.int .u8 0] 5)).drew) B g p from h.below hb.drew) hp ((Blk.new w _ _).alloc _).drew (by omega) hb.drew).mono ?_
  rintro e w' ⟨⟨N, rfl, hN, hr, hg⟩, hx⟩
  exact ⟨N, rfl, hN, hr, hg, run_blk0 (blkG (blk_new2 w _ 5 _).drew hx (by omega))⟩
theorem wild_C {B g p : Nat} (w : World) (h : Rd w B g p) (hp : p ≤ 9900000) :
    Calls Try.prog 67 #[.pointer (some ⟨g, 0, none⟩), .slice (some ⟨w.heap.size + 1, 0, none⟩) 2 2] (((w.alloc (.cells #[.int .u8 0] 5)).alloc (.cells #[.int .i64 2000, .int .i64 2001] 3)).drew) fun e w' => ∃ N : Nat, e = .returned (.int .i64 N) ∧ N ≤ 2001 ∧ Rd w' B g (p + 1) ∧ w.grownBy w' (some g) ∧ (convert 22 9 (.slice (some ⟨w.heap.size, 0, none⟩) 1 1)).run Try.prog w' = .ok (.string (str [0])) w' := by
  have hb : Below w.heap.size w ((w.alloc (.cells #[.int .u8 0] 5)).alloc (.cells #[.int .i64 2000, .int .i64 2001] 3)) := ((Below.refl _ _).alloc (Nat.le_refl _) _).alloc (by simp) _
  have hl := h.lt
  refine (wild_num (w := w) (show Rd (((w.alloc (.cells #[.int .u8 0] 5)).alloc (.cells #[.int .i64 2000, .int .i64 2001] 3)).drew) B g p from h.below hb.drew) hp (blk_new2 w _ 3 _).drew (by omega) hb.drew).mono ?_
  rintro e w' ⟨⟨N, rfl, hN, hr, hg⟩, hx⟩
  exact ⟨N, rfl, hN, hr, hg, run_blk0 (blkG ((Blk.new w 5 _).alloc _).drew hx (by omega))⟩

set_option maxRecDepth 100000 in
set_option maxHeartbeats 1000000 in
theorem rd_wild (B g p : Nat) (s : ByteArray) (w : World) (h : Rd w B g p) (hp : p ≤ 9000000) (hs : s.size ≤ 2000) :
    Calls Try.prog 83 #[.pointer (some ⟨g, 0, none⟩), .string s] w (RdS 2001 B g p 2 w) := by
  go_enter Try.func83, Try.ntmps83
  go_wp2_with fail
  refine (rd_pick B g p 40 w h (by omega) (by omega) (by omega)).mono ?_; rintro e w1 ⟨v, rfl, v0, v1, _, hr1, hg1⟩
  clear h v1
  by_cases h0 : v = 0
  · subst h0
    clear v0
    have hcv := run_one_string (P := Try.prog) w1 22 9 5 Try.underlying22 Try.underlying5 Try.underlying9 255 5
    rw [show (((255 : UInt8).toNat : Nat) : Int) = 255 from rfl] at hcv
    have hz : s.size + (str [255]).size ≤ 9223372036854775807 := by rw [str_size]; simp; omega
    go_wp2_with fail
    go_ret
    exact ⟨(s ++ str [255]).data.toList, ret_str (str_self _).symm, by rw [Sx.len_bytes, ByteArray.size_append, str_size]; simp; omega, _, by omega, hr1.below ((Below.refl _ _).alloc (Nat.le_refl _) _), only_alloc hg1 _⟩
  · have h00 : (v == 0) = false := by simpa using h0
    by_cases h1 : v = 1
    · subst h1
      clear v0 h0 h00
      have NA := hide (wild_A (B := B) (g := g) (p := p + 1) w1 hr1 (by omega))
      have NB := hide (wild_B (B := B) (g := g) (p := p + 1) w1 hr1 (by omega))
      have NC := hide (wild_C (B := B) (g := g) (p := p + 1) w1 hr1 (by omega))
      have hA := fun w => run_blk0 (Blk.new w 5 #[.int .u8 0])
      have hD := run_blk0 (Blk.new w1 5 #[.int .u8 0]).drew
      have hE := run_blk0 (((Blk.new w1 5 #[.int .u8 0]).alloc (.cells #[.int .i64 2000, .int .i64 2001] 3)).drew)
      have hF := run_blk0 (blk_new2 w1 (.cells #[.int .i64 2000, .int .i64 2001] 3) 5 #[.int .u8 0]).drew
      have hM := hide (fun (N : Nat) (wx : World) (hN : N ≤ 2001) => spec_l9Many [0] N wx (by simp; omega) (by omega))
      go_wp2_with fail
      go_region_with (first
        | (go_at_call 67; (with_reducible refine (unhide NA).mono ?_); rintro e w2 ⟨N, rfl, hN, hr2, hg2⟩)
        | (go_at_call 67; (with_reducible refine (unhide NB).mono ?_); rintro e w2 ⟨N, rfl, hN, hr2, hg2, hx2⟩)
        | (go_at_call 67; (with_reducible refine (unhide NC).mono ?_); rintro e w2 ⟨N, rfl, hN, hr2, hg2, hx2⟩)
        | (go_at_call 95; refine ((unhide hM) _ _ hN).mono ?_; rintro e w5 ⟨rfl, rfl⟩))
      all_goals go_wp2
      all_goals
        go_ret
        exact ⟨Sx.rep N [0], rfl, by rw [Sx.rep_length]; simp; omega, p + 2, by omega, by first | exact hr2 | exact hr2.below ((Below.refl _ _).alloc (Nat.le_refl _) _), by first | exact grown_trans' hg1 hg2 | exact only_alloc (grown_trans' hg1 hg2) _⟩
    · have h11 : (v == 1) = false := by simpa using h1
      clear v0 h0 h1
      go_wp2_with fail
      go_ret
      exact ⟨s.data.toList, ret_str (str_self s).symm, by rw [Sx.len_bytes]; omega, _, by omega, hr1, hg1⟩

theorem data_cells {w w1 : World} {a b c : Value} {t : TypeId} (h : Blk (w.alloc (.cells #[a, b, c] t)) w.heap.size t #[a, b, c]) (hg : (w.alloc (.cells #[a, b, c] t)).grownBy w1 none) :
    Below (w.heap.size + 1) (w.alloc (.cells #[a, b, c] t)) w1 ∧ Blk w1 w.heap.size t #[a, b, c] ∧ w1.cell? ⟨w.heap.size, 0, none⟩ = some a ∧ w1.cell? ⟨w.heap.size, 1, none⟩ = some b ∧ w1.cell? ⟨w.heap.size, 2, none⟩ = some c := by
  have hb : Below (w.heap.size + 1) (w.alloc (.cells #[a, b, c] t)) w1 := (Below.refl _ _).grown hg (by simp) (by simp)
  have k := h.below hb (by omega)
  exact ⟨hb, k, k.cell 0, k.cell 1, k.cell 2⟩
theorem l1Data_rel {w w9 : World} {B g base p0 V k pq : Nat} {e : TypeId} {L : List UInt8} {val : Int} {v' : Value}
    (hkl : L.length + k = V) (hlt : 0 < k) (b0 : 0 ≤ val) (b1 : val < 256) (hown' : w9.ownsRow base e 1 v' (L.length + 1) (bvals L ++ [.int .u8 val])) (hr : Rd w9 B g pq) (hp : pq ≤ p0 + 2 * (L.length + 1)) (hg : w.grownBy w9 (some g)) :
    ∃ (k' : Nat) (L' : List UInt8) (A : Option Addr) (cp : Nat), L'.length + k' = V ∧ Value.int .i64 ((k : Int) - 1) = .int .i64 k' ∧ v' = .slice A L'.length cp ∧ w9.ownsRow base e 1 (.slice A L'.length cp) L'.length (bvals L') ∧ (∃ p', p' ≤ p0 + 2 * L'.length ∧ Rd w9 B g p') ∧ w.grownBy w9 (some g) := by
  have ho := own_snoc (byte_int b0 b1) hown'
  obtain ⟨A, cp, hv, _⟩ := own_shape ho
  refine ⟨k - 1, L ++ [UInt8.ofNat val.toNat], A, cp, by rw [List.length_append]; simp; omega, vint (by omega), hv, by rw [← hv]; exact ho, ⟨pq, by rw [List.length_append]; simpa using hp, hr⟩, hg⟩

set_option maxRecDepth 100000 in
set_option maxHeartbeats 4000000 in
theorem rd_data (B g p m : Nat) (o l mm : Int) (w : World) (h : Rd w B g p) (hp : p ≤ 8000000) (hm : m ≤ 10000) (hl0 : 1 ≤ l) (hl1 : l ≤ 8) :
    Calls Try.prog 84 #[.pointer (some ⟨g, 0, none⟩), sv o l mm, .int .i64 m] w (RdS m B g p (4 + 2 * m) w) := by
  obtain ⟨i0, hi0, hz0, hz1, hz2⟩ := info_parts try_info8
  have hglt := h.lt
  have hne : w.heap.size ≠ g := by omega
  have t1 := Sx.two_pos l
  have t2 := Sx.two_byte hl1
  have K0 := hide (Blk.new w 42 #[.int .i64 o, .int .i64 l, .int .i64 mm])
  go_enter Try.func84, Try.ntmps84
  go_wp2_with (at_make; refine wpList_make_own _ rfl (.const (.int .i64 0)) (.tmp 13) 22 rfl (w.heap.size + 1) 5 i0 (.int .u8 0) 1 Try.underlying22 hi0 hz0 hz1 .i64 .i64 _ m rfl rfl rfl (by rw [hz2]; omega) (by simp only [maxLen]; omega) (by simp) ?_; intro w1 hown1 hgrow1; obtain ⟨hb0, kb1, c0, c1, c2⟩ := data_cells K0.out hgrow1; rw [World.size_alloc] at hown1)
  have hbw := below_box hb0
  have hr1 := h.below hbw
  have hg1 := below_grownBy hbw (some g)
  clear K0 hb0 hbw h hgrow1
  refine (spec_l1Clear o l mm w1 (by omega) (by omega)).mono ?_; rintro e w2 ⟨rfl, hb2⟩
  have own2 := own_below hown1 hb2
  have hr2 := hr1.below hb2
  have kb2 := kb1.below hb2 kb1.lt
  have hg2 := grown_trans' hg1 (below_grownBy hb2 (some g))
  clear hown1 hr1 kb1 hg1 hb2 c0 c1 c2
  go_wp2_with fail
  refine (num_list [2, 3, Sx.two l, 1] 3 hr2 (by omega) (by simp) (by simp) (Q := fun x => 1 ≤ x ∧ x ≤ 1024) (by intro q hq; simp at hq; omega)).mono ?_
  rintro e w3 ⟨v, rfl, ⟨v0, v1⟩, hr3, hh3⟩
  have own3 := own_grown own2 hh3 (by omega)
  have kb3 := blkG kb2 hh3 hne
  have hg3 := grown_trans' hg2 hh3
  clear own2 hr2 kb2 hg2 hh3
  have c0 : w3.cell? ⟨w.heap.size, 0, none⟩ = some (.int .i64 o) := kb3.cell 0
  have c1 : w3.cell? ⟨w.heap.size, 1, none⟩ = some (.int .i64 l) := kb3.cell 1
  have c2 : w3.cell? ⟨w.heap.size, 2, none⟩ = some (.int .i64 mm) := kb3.cell 2
  obtain ⟨P, hP, p0, p1⟩ := least_of v0 t1 t2
  go_wp2_with fail
  refine (spec_l1Clear o l mm w3 (by omega) (by omega)).mono ?_; rintro e w4 ⟨rfl, hb4⟩
  have own4 := own_below own3 hb4
  have hr4 := hr3.below hb4
  have kb4 := kb3.below hb4 kb3.lt
  have hg4 := grown_trans' hg3 (below_grownBy hb4 (some g))
  clear own3 hr3 kb3 hg3 hb4 c0 c1 c2
  go_wp2_with fail
  refine (rd_pick B g _ 7 w4 hr4 (by omega) (by omega) (by omega)).mono ?_; rintro e w5 ⟨N, rfl, n0, n1, _, hr5, hh5⟩
  have n2 := n1 (by omega)
  obtain ⟨N, rfl⟩ := Int.eq_ofNat_of_zero_le n0
  clear n1 kb4
  have own5 := own_grown own4 hh5 (by omega)
  have hg5 := grown_trans' hg4 hh5
  clear own4 hr4 hg4 hh5
  go_wp2_with fail
  refine (rd_pick B g _ 4 w5 hr5 (by omega) (by omega) (by omega)).mono ?_; rintro e w6 ⟨M, rfl, m0, m1, _, hr6, hh6⟩
  clear m1
  have own6 := own_grown own5 hh6 (by omega)
  have hg6 := grown_trans' hg5 hh6
  clear own5 hr5 hg5 hh6
  have C := hide (rd_pick B g _ ((m : Int) + 1) w6 hr6 (by omega) (by omega) (by omega))
  go_wp2_with fail
  refine (unhide C).mono ?_; rintro e w7 ⟨V, rfl, q0, q1, _, hr7, hh7⟩
  have q2 := q1 (by omega)
  obtain ⟨V, rfl⟩ := Int.eq_ofNat_of_zero_le q0
  clear C q1
  have own7 := own_grown own6 hh7 (by omega)
  have hg7 := grown_trans' hg6 hh7
  clear own6 hr6 hg6 hh7
  go_wp2_with fail
  go_loopw [7, 11] (fun u i wr => ∃ (k : Nat) (L : List UInt8) (A : Option Addr) (cp : Nat), L.length + k = V ∧ i = .int .i64 k ∧ u = .slice A L.length cp ∧ wr.ownsRow (w.heap.size + 1) 5 1 (.slice A L.length cp) L.length (bvals L) ∧ (∃ p', p' ≤ p + 4 + 2 * L.length ∧ Rd wr B g p') ∧ w.grownBy wr (some g)) (fun _ i _ => (intOf i).toNat)
  case atStart => exact ⟨V, [], some ⟨w.heap.size + 1, 0, none⟩, m, by simp, rfl, rfl, own7, ⟨_, by simp, hr7⟩, hg7⟩
  case round =>
    obtain ⟨k, L, A, cp, hkl, rfl, rfl, hrow, ⟨p', hp', hr⟩, hg⟩ := hrel
    have HK := hide hkl
    have hle : L.length ≤ 10000 := by omega
    have hk : k ≤ 10000 := by omega
    clear hkl
    have hsz := hg.size
    by_cases hlt : 0 < k
    · have C := hide (rd_pick B g p' 256 wr hr (by omega) (by omega) (by omega))
      have hsh := own_ptr hrow
      go_wp2_with fail
      refine (unhide C).mono ?_; rintro e w3 ⟨x, rfl, x0, x1, _, hr3, hg3⟩
      clear C
      obtain ⟨q, hq, hqt, qa, qb, hqw⟩ := rem_byte x0 p0 (by omega) p1
      have hrow3 := own_grown hrow hg3 (by omega)
      have hsz3 := hg3.size
      have pn : P ≠ 0 := by omega
      clear x1 hrow hr
      by_cases hM : M = 0
      · have e0 : (M == 0) = true := by simpa using hM
        have e1 : (M == 1) = false := by rw [beq_eq_false_iff_ne]; omega
        clear hM
        by_cases hL : 0 < L.length
        · skip
          obtain ⟨ga, rfl⟩ := hsh (by omega)
          go_wp2_with fail
          refine (rd_pick B g _ 4 w3 hr3 (by omega) (by omega) (by omega)).mono ?_; rintro e w4 ⟨y, rfl, y0, y1, _, hr4, hg4⟩
          have hrow4 := own_grown hrow3 hg4 (by omega)
          have hsz4 := hg4.size
          have hg34 := grown_trans' hg3 hg4
          clear y1 hr3 hrow3 hg3 hg4
          by_cases hy : 0 < y
          · obtain ⟨b, ba, bb, hcell⟩ := cell_own hrow4 (L.length - 1) (by omega)
            go_wp2_with (at_builtin; refine wpList_append_own _ rfl (.tmp 82) (.tmp 84) _ rfl (w.heap.size + 1) 5 i0 (.int .u8 0) 1 1 Try.underlying22 hi0 hz0 hz1 hz2 rfl (by decide) _ _ _ rfl (hrow4.alloc _) ⟨w4.heap.size, 0, none⟩ 1 1 [.int .u8 b] rfl rfl (u8_new _ _ _) (by simp [Value.oneCell']) (by simp only [maxLen]; omega) (by omega) (by simp; omega) ?_; intro v' w9 hown' hgrow _)
            go_roundw
            case rel =>
              have hr9 := rd_grown (hr4.below ((Below.refl _ _).alloc (Nat.le_refl _) _)) (hrow4.alloc _) hgrow (by omega)
              exact l1Data_rel HK.out hlt ba bb hown' (hr9) (by omega) (grown_any (only_alloc (grown_trans' hg hg34) _) (hrow4.alloc _) (by omega) hgrow)
            case measure => simp [intOf]; omega
          · skip
            go_wp2_with (at_builtin; refine wpList_append_own _ rfl (.tmp 82) (.tmp 84) _ rfl (w.heap.size + 1) 5 i0 (.int .u8 0) 1 1 Try.underlying22 hi0 hz0 hz1 hz2 rfl (by decide) _ _ _ rfl (hrow4.alloc _) ⟨w4.heap.size, 0, none⟩ 1 1 [.int .u8 q] rfl rfl (u8_new _ _ _) (by simp [Value.oneCell']) (by simp only [maxLen]; omega) (by omega) (by simp; omega) ?_; intro v' w9 hown' hgrow _)
            go_roundw
            case rel =>
              have hr9 := rd_grown (hr4.below ((Below.refl _ _).alloc (Nat.le_refl _) _)) (hrow4.alloc _) hgrow (by omega)
              exact l1Data_rel HK.out hlt qa qb hown' (hr9) (by omega) (grown_any (only_alloc (grown_trans' hg hg34) _) (hrow4.alloc _) (by omega) hgrow)
            case measure => simp [intOf]; omega
        · skip
          go_wp2_with (at_builtin; refine wpList_append_own _ rfl (.tmp 82) (.tmp 84) _ rfl (w.heap.size + 1) 5 i0 (.int .u8 0) 1 1 Try.underlying22 hi0 hz0 hz1 hz2 rfl (by decide) _ _ _ rfl (hrow3.alloc _) ⟨w3.heap.size, 0, none⟩ 1 1 [.int .u8 q] rfl rfl (u8_new _ _ _) (by simp [Value.oneCell']) (by simp only [maxLen]; omega) (by omega) (by simp; omega) ?_; intro v' w9 hown' hgrow _)
          go_roundw
          case rel =>
            have hr9 := rd_grown (hr3.below ((Below.refl _ _).alloc (Nat.le_refl _) _)) (hrow3.alloc _) hgrow (by omega)
            exact l1Data_rel HK.out hlt qa qb hown' (hr9) (by omega) (grown_any (only_alloc (grown_trans' hg hg3) _) (hrow3.alloc _) (by omega) hgrow)
          case measure => simp [intOf]; omega
      · have e0 : (M == 0) = false := by simpa using hM
        clear hM
        by_cases hM : M = 1
        · have e1 : (M == 1) = true := by simpa using hM
          clear hM
          by_cases hL : 1 + N ≤ L.length
          · skip
            obtain ⟨ga, rfl⟩ := hsh (by omega)
            go_wp2_with fail
            refine (rd_pick B g _ 10 w3 hr3 (by omega) (by omega) (by omega)).mono ?_; rintro e w4 ⟨y, rfl, y0, y1, _, hr4, hg4⟩
            have hrow4 := own_grown hrow3 hg4 (by omega)
            have hsz4 := hg4.size
            have hg34 := grown_trans' hg3 hg4
            clear y1 hr3 hrow3 hg3 hg4
            by_cases hy : 0 < y
            · obtain ⟨b, ba, bb, hcell⟩ := cell_own hrow4 (L.length - (1 + N)) (by omega)
              go_wp2_with (at_builtin; refine wpList_append_own _ rfl (.tmp 82) (.tmp 84) _ rfl (w.heap.size + 1) 5 i0 (.int .u8 0) 1 1 Try.underlying22 hi0 hz0 hz1 hz2 rfl (by decide) _ _ _ rfl (hrow4.alloc _) ⟨w4.heap.size, 0, none⟩ 1 1 [.int .u8 b] rfl rfl (u8_new _ _ _) (by simp [Value.oneCell']) (by simp only [maxLen]; omega) (by omega) (by simp; omega) ?_; intro v' w9 hown' hgrow _)
              go_roundw
              case rel =>
                have hr9 := rd_grown (hr4.below ((Below.refl _ _).alloc (Nat.le_refl _) _)) (hrow4.alloc _) hgrow (by omega)
                exact l1Data_rel HK.out hlt ba bb hown' (hr9) (by omega) (grown_any (only_alloc (grown_trans' hg hg34) _) (hrow4.alloc _) (by omega) hgrow)
              case measure => simp [intOf]; omega
            · skip
              go_wp2_with (at_builtin; refine wpList_append_own _ rfl (.tmp 82) (.tmp 84) _ rfl (w.heap.size + 1) 5 i0 (.int .u8 0) 1 1 Try.underlying22 hi0 hz0 hz1 hz2 rfl (by decide) _ _ _ rfl (hrow4.alloc _) ⟨w4.heap.size, 0, none⟩ 1 1 [.int .u8 q] rfl rfl (u8_new _ _ _) (by simp [Value.oneCell']) (by simp only [maxLen]; omega) (by omega) (by simp; omega) ?_; intro v' w9 hown' hgrow _)
              go_roundw
              case rel =>
                have hr9 := rd_grown (hr4.below ((Below.refl _ _).alloc (Nat.le_refl _) _)) (hrow4.alloc _) hgrow (by omega)
                exact l1Data_rel HK.out hlt qa qb hown' (hr9) (by omega) (grown_any (only_alloc (grown_trans' hg hg34) _) (hrow4.alloc _) (by omega) hgrow)
              case measure => simp [intOf]; omega
          · skip
            go_wp2_with (at_builtin; refine wpList_append_own _ rfl (.tmp 82) (.tmp 84) _ rfl (w.heap.size + 1) 5 i0 (.int .u8 0) 1 1 Try.underlying22 hi0 hz0 hz1 hz2 rfl (by decide) _ _ _ rfl (hrow3.alloc _) ⟨w3.heap.size, 0, none⟩ 1 1 [.int .u8 q] rfl rfl (u8_new _ _ _) (by simp [Value.oneCell']) (by simp only [maxLen]; omega) (by omega) (by simp; omega) ?_; intro v' w9 hown' hgrow _)
            go_roundw
            case rel =>
              have hr9 := rd_grown (hr3.below ((Below.refl _ _).alloc (Nat.le_refl _) _)) (hrow3.alloc _) hgrow (by omega)
              exact l1Data_rel HK.out hlt qa qb hown' (hr9) (by omega) (grown_any (only_alloc (grown_trans' hg hg3) _) (hrow3.alloc _) (by omega) hgrow)
            case measure => simp [intOf]; omega
        · have e1 : (M == 1) = false := by simpa using hM
          clear hM
          go_wp2_with (at_builtin; refine wpList_append_own _ rfl (.tmp 82) (.tmp 84) _ rfl (w.heap.size + 1) 5 i0 (.int .u8 0) 1 1 Try.underlying22 hi0 hz0 hz1 hz2 rfl (by decide) _ _ _ rfl (hrow3.alloc _) ⟨w3.heap.size, 0, none⟩ 1 1 [.int .u8 q] rfl rfl (u8_new _ _ _) (by simp [Value.oneCell']) (by simp only [maxLen]; omega) (by omega) (by simp; omega) ?_; intro v' w9 hown' hgrow _)
          go_roundw
          case rel =>
            have hr9 := rd_grown (hr3.below ((Below.refl _ _).alloc (Nat.le_refl _) _)) (hrow3.alloc _) hgrow (by omega)
            exact l1Data_rel HK.out hlt qa qb hown' (hr9) (by omega) (grown_any (only_alloc (grown_trans' hg hg3) _) (hrow3.alloc _) (by omega) hgrow)
          case measure => simp [intOf]; omega
    · have hcv := run_own_string (P := Try.prog) wr 22 9 5 Try.underlying22 Try.underlying5 Try.underlying9 hrow
      have hm2 : L.length ≤ m := by have := HK.out; omega
      go_wp2_with fail
      go_ret
      exact ⟨L, rfl, hm2, p', by have := HK.out; omega, hr, hg⟩

end Go.Proofs.Ytkecappciglonaa

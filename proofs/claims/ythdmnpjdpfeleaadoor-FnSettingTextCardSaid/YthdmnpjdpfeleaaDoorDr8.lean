/- The walks of the drawn settings. Conditions: a slice of at most 1048576 bytes. -/
import Derived.Test.YthdmnpjdpfeleaaDoorDr2
import Derived.Test.YthdmnpjdpfeleaaDoorS
namespace Go.Proofs.YthdmnpjdpfeleaaDoor
open Go.RowKit

/-- A function of the reader that returns a setting. -/
def RdSet (Q : Int → Int → Int → Prop) (B g p d : Nat) (w : World) (e : Ending) (w' : World) : Prop := ∃ o l m : Int, e = .returned (sv o l m) ∧ Q o l m ∧ ∃ p', p' ≤ p + d ∧ Rd w' B g p' ∧ w.grownBy w' (some g)
def FitsS (o l m : Int) : Prop := Fits o ∧ Fits l ∧ Fits m
theorem fits_set {o l m : Int} (h : Sx.setOK o l m = true) : FitsS o l m := by
  have h1 := Sx.setOK_bd h
  have h2 := Sx.setOK_od h
  unfold FitsS Fits
  omega
theorem grown_of_alloc {w w' : World} {o : Obj} {g : Nat} (h : (w.alloc o).grownBy w' (some g)) : w.grownBy w' (some g) :=
  ⟨h.os, h.tape, h.output, Nat.le_trans (by simp) h.size, fun k hk hne => (h.block k (by simp; omega) hne).trans (Below.heap_alloc w _ k hk)⟩
theorem blk_grown {w w' : World} {g k : Nat} {o : Obj} (h : w.grownBy w' (some g)) (hk : w.heap[k]? = some o) (hne : k ≠ g) : w'.heap[k]? = some o := by
  have hlt : k < w.heap.size := by
    rcases Nat.lt_or_ge k w.heap.size with hlt | hge
    · exact hlt
    · rw [Array.getElem?_eq_none hge] at hk; cases hk
  exact (h.block k hlt (by simpa using hne)).trans hk
theorem blkG {w w' : World} {g k : Nat} {t : TypeId} {cs : Array Value} (hb : Blk w k t cs) (h : w.grownBy w' (some g)) (hne : k ≠ g) : Blk w' k t cs := blk_grown h hb hne
theorem size_g {w w' : World} {g k : Nat} (h : w.grownBy w' (some g)) (hk : k < w.heap.size) : k < w'.heap.size := Nat.lt_of_lt_of_le hk h.size

theorem num_at {B g p c : Nat} {Q : Int → Prop} {w : World} (l : List Int) (t : TypeId) (b : Nat) (hb : w.heap.size = b) (h : Rd w B g p) (hp : p ≤ 10000000) (hl : 1 ≤ l.length) (hl2 : l.length ≤ 1000) (hQ : ∀ x ∈ l, Q x) :
    Calls Tryd.prog 32 #[.pointer (some ⟨g, 0, none⟩), .slice (some ⟨b, 0, none⟩) l.length c] (w.alloc (.cells (l.map (Value.int .i64)).toArray t)) fun e w' => ∃ x : Int, e = .returned (.int .i64 x) ∧ Q x ∧ Rd w' B g (p + 1) ∧ w.grownBy w' (some g) := by
  subst hb
  exact num_list l t h hp hl hl2 hQ

theorem blk3_set {w : World} {g : Nat} {t : TypeId} {a0 a1 a2 : Value} (h : Blk w g t #[a0, a1, a2]) (x y z : Value) : Blk (((w.setCell ⟨g, 0, none⟩ x).setCell ⟨g, 1, none⟩ y).setCell ⟨g, 2, none⟩ z) g t #[x, y, z] := ((h.set_ 0 x).set_ 1 y).set_ 2 z
theorem Rd.far {w : World} {B g p : Nat} (h : Rd w B g p) {q : Addr} (hq : g ≠ q.block) (hB : B ≤ q.block) (u : Value) : Rd (w.setCell q u) B g p :=
  h.keep (Below.heap_setCell w q u g hq) fun k hk => Below.heap_setCell w q u k (by omega)
theorem Rd.far1 {w : World} {B g p b i : Nat} (h : Rd w B g p) (hq : g ≠ b) (hB : B ≤ b) (u : Value) : Rd (w.setCell ⟨b, i, none⟩ u) B g p := h.far (q := ⟨b, i, none⟩) hq hB u
theorem Rd.far3 {w : World} {B g p b : Nat} (h : Rd w B g p) (hq : g ≠ b) (hB : B ≤ b) (x y z : Value) : Rd (((w.setCell ⟨b, 0, none⟩ x).setCell ⟨b, 1, none⟩ y).setCell ⟨b, 2, none⟩ z) B g p :=
  ((h.far (q := ⟨b, 0, none⟩) hq hB x).far (q := ⟨b, 1, none⟩) hq hB y).far (q := ⟨b, 2, none⟩) hq hB z
theorem only_set3 {a w : World} {g b : Nat} (h : a.grownBy w (some g)) (hb : a.heap.size ≤ b) (x y z : Value) : a.grownBy (((w.setCell ⟨b, 0, none⟩ x).setCell ⟨b, 1, none⟩ y).setCell ⟨b, 2, none⟩ z) (some g) :=
  only_setCell (only_setCell (only_setCell h (p := ⟨b, 0, none⟩) (.inr hb) x) (p := ⟨b, 1, none⟩) (.inr hb) y) (p := ⟨b, 2, none⟩) (.inr hb) z
theorem some_ok {o l m : Int} (h0 : 0 ≤ o) (h1 : o < 2) (h2 : 1 ≤ l) (h3 : l ≤ 8) (h4 : l + 2 ≤ m) (h5 : m ≤ 10) : Sx.setOK o l m = true := Sx.setOK_of (by omega) h2 h3 h4 h5

set_option maxRecDepth 100000 in
set_option maxHeartbeats 1000000 in
theorem rd_some (B g p : Nat) (w : World) (h : Rd w B g p) (hp : p ≤ 9000000) :
    Calls Tryd.prog 23 #[.pointer (some ⟨g, 0, none⟩)] w (RdSet (fun o l m => Sx.setOK o l m = true) B g p 5 w) := by
  have hlt := h.lt
  have hne : w.heap.size ≠ g := by omega
  have H1 := hide (h.below ((Below.refl _ _).alloc (Nat.le_refl _) (.cells #[.int .i64 0, .int .i64 0, .int .i64 0] 23)))
  have K1 := hide (Blk.new w 23 #[.int .i64 0, .int .i64 0, .int .i64 0])
  clear h
  go_enter Tryd.func23, Tryd.ntmps23
  go_wp2_with fail
  refine (num_at [2, 3, 2, 1, 8, 5] 3 (w.heap.size + 1) (by simp) H1.out (by omega) (by decide) (by decide) (Q := fun x => 1 ≤ x ∧ x ≤ 8) (by decide)).mono ?_
  rintro e w1 ⟨l, rfl, ⟨l0, l1⟩, hr1, hg1⟩
  have k1 := blkG K1.out hg1 hne
  have s1 := size_g hg1 (k := w.heap.size) (by simp)
  have G1 := grown_of_alloc hg1
  clear H1 K1 hg1
  go_wp2_with fail
  refine (rd_pick B g (p + 1) (10 - l - 1) w1 hr1 (by omega) (by omega) (by omega)).mono ?_
  rintro e w2 ⟨v, rfl, v0, v1, _, hr2, hg2⟩
  have v2 := v1 (by omega)
  have k2 := blkG k1 hg2 hne
  have s2 := size_g hg2 s1
  have G2 := grown_trans' G1 hg2
  clear v1 hr1 hg2 k1 s1 G1
  go_wp2_with fail
  refine (rd_pick B g _ 2 w2 hr2 (by omega) (by omega) (by omega)).mono ?_
  rintro e w3 ⟨y, rfl, y0, y1, _, hr3, hg3⟩
  have k3 := blkG k2 hg3 hne
  have s3 := size_g hg3 s2
  have G3 := grown_trans' G2 hg3
  clear y1 hr2 hg3 k2 s2 G2
  by_cases h0 : y = 0
  · subst h0
    clear y0
    go_wp2_with fail
    refine (rd_pick B g _ 2 w3 hr3 (by omega) (by omega) (by omega)).mono ?_
    rintro e w4 ⟨z, rfl, z0, z1, _, hr4, hg4⟩
    have z2 := z1 (by omega)
    have k4 := blkG k3 hg4 hne
    have s4 := size_g hg4 s3
    have G4 := grown_trans' G3 hg4
    clear z1 hr3 hg4 k3 s3 G3
    go_wp2_with fail
    refine (rd_pick B g _ 2 w4 hr4 (by omega) (by omega) (by omega)).mono ?_
    rintro e w5 ⟨o, rfl, o0, o1, _, hr5, hg5⟩
    have o2 := o1 (by omega)
    have k5 := blkG k4 hg5 hne
    have s5 := size_g hg5 s4
    have G5 := grown_trans' G4 hg5
    clear o1 hr4 hg5 k4 s4 G4
    have c0 : w5.cell? ⟨w.heap.size, 0, none⟩ = some (.int .i64 0) := k5.cell 0
    have c1 : w5.cell? ⟨w.heap.size, 1, none⟩ = some (.int .i64 0) := k5.cell 1
    have c2 : w5.cell? ⟨w.heap.size, 2, none⟩ = some (.int .i64 0) := k5.cell 2
    have f0 := k5.frozen 0
    have f1 := k5.frozen 1
    have f2 := k5.frozen 2
    go_wp2_with fail
    have q := blk3_set k5 (.int .i64 o) (.int .i64 l) (.int .i64 (min (l + 2 + z) 10))
    have q0 := q.cell 0
    have q1 := q.cell 1
    have q2 := q.cell 2
    exact bodyPost_ret (v := sv o l (min (l + 2 + z) 10)) (by simp [results, Tryd.results23, go_sem, q0, q1, q2]) rfl ⟨o, l, _, rfl, some_ok o0 o2 l0 l1 (by omega) (by omega), _, by omega, hr5.far3 (by omega) (by have := hr5.1; omega) _ _ _, only_set3 G5 (Nat.le_refl _) _ _ _⟩
  · have h00 : (y == 0) = false := by simpa using h0
    clear y0 h0
    go_wp2_with fail
    refine (rd_pick B g _ 2 w3 hr3 (by omega) (by omega) (by omega)).mono ?_
    rintro e w5 ⟨o, rfl, o0, o1, _, hr5, hg5⟩
    have o2 := o1 (by omega)
    have k5 := blkG k3 hg5 hne
    have s5 := size_g hg5 s3
    have G5 := grown_trans' G3 hg5
    clear o1 hr3 hg5 k3 s3 G3
    have c0 : w5.cell? ⟨w.heap.size, 0, none⟩ = some (.int .i64 0) := k5.cell 0
    have c1 : w5.cell? ⟨w.heap.size, 1, none⟩ = some (.int .i64 0) := k5.cell 1
    have c2 : w5.cell? ⟨w.heap.size, 2, none⟩ = some (.int .i64 0) := k5.cell 2
    have f0 := k5.frozen 0
    have f1 := k5.frozen 1
    have f2 := k5.frozen 2
    go_wp2_with fail
    have q := blk3_set k5 (.int .i64 o) (.int .i64 l) (.int .i64 (l + 2 + v))
    have q0 := q.cell 0
    have q1 := q.cell 1
    have q2 := q.cell 2
    exact bodyPost_ret (v := sv o l (l + 2 + v)) (by simp [results, Tryd.results23, go_sem, q0, q1, q2]) rfl ⟨o, l, _, rfl, some_ok o0 o2 l0 l1 (by omega) (by omega), _, by omega, hr5.far3 (by omega) (by have := hr5.1; omega) _ _ _, only_set3 G5 (Nat.le_refl _) _ _ _⟩

theorem bad_end {W w : World} {B g p d : Nat} {o l m : Int} {b : Nat} (hb : w.heap.size = b) (hr : Rd W B g p) (hg : w.grownBy W (some g)) (hlt : g < b) (hf : FitsS o l m) {e : Ending} (hp : p ≤ d) (he : e = .returned (sv o l m)) :
    RdSet FitsS B g 0 d w e (((W.setCell ⟨b + 1, 0, none⟩ (.int .i64 o)).setCell ⟨b + 1, 1, none⟩ (.int .i64 l)).setCell ⟨b + 1, 2, none⟩ (.int .i64 m)) := by
  have h1 := hr.1
  exact ⟨o, l, m, he, hf, p, by omega, hr.far3 (by omega) (by omega) _ _ _, only_set3 hg (by omega) _ _ _⟩

set_option maxRecDepth 100000 in
set_option maxHeartbeats 1000000 in
theorem rd_bad (B g p : Nat) (o l m : Int) (w : World) (h : Rd w B g p) (hp : p ≤ 9000000) (hf : FitsS o l m) (hl : 0 ≤ l ∧ l ≤ 8) :
    Calls Tryd.prog 31 #[.pointer (some ⟨g, 0, none⟩), sv o l m] w (RdSet FitsS B g 0 (p + 2) w) := by
  have hlt := h.lt
  have hne : w.heap.size ≠ g := by omega
  have hne1 : w.heap.size + 1 ≠ g := by omega
  have hB : Below w.heap.size w ((w.alloc (.cells #[.int .i64 o, .int .i64 l, .int .i64 m] 23)).alloc (.cells #[.int .i64 0, .int .i64 0, .int .i64 0] 23)) := ((Below.refl _ _).alloc (Nat.le_refl _) _).alloc (by simp) _
  have H1 := hide (h.below hB)
  have K1 := hide ((Blk.new w 23 #[.int .i64 o, .int .i64 l, .int .i64 m]).alloc (.cells #[.int .i64 0, .int .i64 0, .int .i64 0] 23))
  have J1 := Blk.new (w.alloc (.cells #[.int .i64 o, .int .i64 l, .int .i64 m] 23)) 23 #[.int .i64 0, .int .i64 0, .int .i64 0]
  have hz : (w.alloc (.cells #[.int .i64 o, .int .i64 l, .int .i64 m] 23)).heap.size = w.heap.size + 1 := by simp
  rw [hz] at J1
  have J1 := hide J1
  have G1 := hide (below_grownBy hB (some g))
  obtain ⟨hfo, hfl, hfm⟩ := hf
  have hfo' := hfo
  have hfl' := hfl
  have hfm' := hfm
  unfold Fits at hfo' hfl' hfm'
  clear hB hz h
  go_enter Tryd.func31, Tryd.ntmps31
  go_wp2_with fail
  refine (rd_pick B g p 40 _ H1.out (by omega) (by omega) (by omega)).mono ?_; rintro e w1 ⟨v, rfl, v0, v1, _, hr1, hg1⟩
  have k1 := blkG K1.out hg1 hne
  have j1 := blkG J1.out hg1 hne1
  have G2 := grown_trans' G1.out hg1
  clear H1 K1 J1 G1 hg1 v1
  by_cases h0 : v = 0
  · subst h0
    clear v0
    go_wp2_with fail
    refine (num_list [-1, 2] 3 hr1 (by omega) (by decide) (by simp) (Q := Fits) (by unfold Fits; decide)).mono ?_
    rintro e w2 ⟨x, rfl, hx, hr2, hg2⟩
    have k2 := blkG k1 hg2 hne
    have j2 := blkG j1 hg2 hne1
    have G3 := grown_trans' G2 hg2
    clear hr1 hg2 k1 j1 G2
    have b1 := hr2.1
    have c0 : w2.cell? ⟨w.heap.size, 0, none⟩ = some (.int .i64 o) := k2.cell 0
    have c1 : w2.cell? ⟨w.heap.size, 1, none⟩ = some (.int .i64 l) := k2.cell 1
    have c2 : w2.cell? ⟨w.heap.size, 2, none⟩ = some (.int .i64 m) := k2.cell 2
    have f0 := k2.frozen 0
    have f1 := k2.frozen 1
    have f2 := k2.frozen 2
    have d0 : w2.cell? ⟨w.heap.size + 1, 0, none⟩ = some (.int .i64 0) := j2.cell 0
    have d1 : w2.cell? ⟨w.heap.size + 1, 1, none⟩ = some (.int .i64 0) := j2.cell 1
    have d2 : w2.cell? ⟨w.heap.size + 1, 2, none⟩ = some (.int .i64 0) := j2.cell 2
    have e0 := j2.frozen 0
    have e1 := j2.frozen 1
    have e2 := j2.frozen 2
    go_wp2_with fail
    have q := blk3_set (j2.far (p := ⟨w.heap.size, 0, none⟩) (by simp) (.int .i64 x)) (.int .i64 x) (.int .i64 l) (.int .i64 m)
    have q0 := q.cell 0
    have q1 := q.cell 1
    have q2 := q.cell 2
    exact bodyPost_ret (v := sv x l m) (by simp [results, Tryd.results31, go_sem, q0, q1, q2]) rfl (bad_end rfl (hr2.far1 (b := w.heap.size) (i := 0) (by omega) (by omega) _) (only_setCell G3 (p := ⟨w.heap.size, 0, none⟩) (.inr (Nat.le_refl _)) _) hlt ⟨hx, hfl, hfm⟩ (by omega) rfl)
  · have h00 : (v == 0) = false := by simpa using h0
    by_cases h1 : v = 1
    · subst h1
      clear v0 h0 h00
      go_wp2_with fail
      refine (num_list [0, 9, -1, 9223372036854775807] 3 hr1 (by omega) (by decide) (by simp) (Q := Fits) (by unfold Fits; decide)).mono ?_
      rintro e w2 ⟨x, rfl, hx, hr2, hg2⟩
      have k2 := blkG k1 hg2 hne
      have j2 := blkG j1 hg2 hne1
      have G3 := grown_trans' G2 hg2
      clear hr1 hg2 k1 j1 G2
      have b1 := hr2.1
      have c0 : w2.cell? ⟨w.heap.size, 0, none⟩ = some (.int .i64 o) := k2.cell 0
      have c1 : w2.cell? ⟨w.heap.size, 1, none⟩ = some (.int .i64 l) := k2.cell 1
      have c2 : w2.cell? ⟨w.heap.size, 2, none⟩ = some (.int .i64 m) := k2.cell 2
      have f0 := k2.frozen 0
      have f1 := k2.frozen 1
      have f2 := k2.frozen 2
      have d0 : w2.cell? ⟨w.heap.size + 1, 0, none⟩ = some (.int .i64 0) := j2.cell 0
      have d1 : w2.cell? ⟨w.heap.size + 1, 1, none⟩ = some (.int .i64 0) := j2.cell 1
      have d2 : w2.cell? ⟨w.heap.size + 1, 2, none⟩ = some (.int .i64 0) := j2.cell 2
      have e0 := j2.frozen 0
      have e1 := j2.frozen 1
      have e2 := j2.frozen 2
      go_wp2_with fail
      have q := blk3_set (j2.far (p := ⟨w.heap.size, 1, none⟩) (by simp) (.int .i64 x)) (.int .i64 o) (.int .i64 x) (.int .i64 m)
      have q0 := q.cell 0
      have q1 := q.cell 1
      have q2 := q.cell 2
      exact bodyPost_ret (v := sv o x m) (by simp [results, Tryd.results31, go_sem, q0, q1, q2]) rfl (bad_end rfl (hr2.far1 (b := w.heap.size) (i := 1) (by omega) (by omega) _) (only_setCell G3 (p := ⟨w.heap.size, 1, none⟩) (.inr (Nat.le_refl _)) _) hlt ⟨hfo, hx, hfm⟩ (by omega) rfl)
    · have h11 : (v == 1) = false := by simpa using h1
      by_cases h2 : v = 2
      · subst h2
        clear v0 h0 h00 h1 h11
        have c0 : w1.cell? ⟨w.heap.size, 0, none⟩ = some (.int .i64 o) := k1.cell 0
        have c1 : w1.cell? ⟨w.heap.size, 1, none⟩ = some (.int .i64 l) := k1.cell 1
        have c2 : w1.cell? ⟨w.heap.size, 2, none⟩ = some (.int .i64 m) := k1.cell 2
        have f0 := k1.frozen 0
        have f1 := k1.frozen 1
        have f2 := k1.frozen 2
        have d0 : w1.cell? ⟨w.heap.size + 1, 0, none⟩ = some (.int .i64 0) := j1.cell 0
        have d1 : w1.cell? ⟨w.heap.size + 1, 1, none⟩ = some (.int .i64 0) := j1.cell 1
        have d2 : w1.cell? ⟨w.heap.size + 1, 2, none⟩ = some (.int .i64 0) := j1.cell 2
        have e0 := j1.frozen 0
        have e1 := j1.frozen 1
        have e2 := j1.frozen 2
        go_wp2_with fail
        clear c0 c1 c2 f0 f1 f2 d0 d1 d2 e0 e1 e2
        refine (num_list [l + 1, 11, -1, -9223372036854775808] 3 hr1 (by omega) (by simp) (by simp) (Q := Fits) (by intro q hq; unfold Fits; simp at hq; omega)).mono ?_
        rintro e w2 ⟨x, rfl, hx, hr2, hg2⟩
        have k2 := blkG k1 hg2 hne
        have j2 := blkG j1 hg2 hne1
        have G3 := grown_trans' G2 hg2
        clear hr1 hg2 k1 j1 G2
        have b1 := hr2.1
        have c0 : w2.cell? ⟨w.heap.size, 0, none⟩ = some (.int .i64 o) := k2.cell 0
        have c1 : w2.cell? ⟨w.heap.size, 1, none⟩ = some (.int .i64 l) := k2.cell 1
        have c2 : w2.cell? ⟨w.heap.size, 2, none⟩ = some (.int .i64 m) := k2.cell 2
        have f0 := k2.frozen 0
        have f1 := k2.frozen 1
        have f2 := k2.frozen 2
        have d0 : w2.cell? ⟨w.heap.size + 1, 0, none⟩ = some (.int .i64 0) := j2.cell 0
        have d1 : w2.cell? ⟨w.heap.size + 1, 1, none⟩ = some (.int .i64 0) := j2.cell 1
        have d2 : w2.cell? ⟨w.heap.size + 1, 2, none⟩ = some (.int .i64 0) := j2.cell 2
        have e0 := j2.frozen 0
        have e1 := j2.frozen 1
        have e2 := j2.frozen 2
        go_wp2_with fail
        have q := blk3_set (j2.far (p := ⟨w.heap.size, 2, none⟩) (by simp) (.int .i64 x)) (.int .i64 o) (.int .i64 l) (.int .i64 x)
        have q0 := q.cell 0
        have q1 := q.cell 1
        have q2 := q.cell 2
        exact bodyPost_ret (v := sv o l x) (by simp [results, Tryd.results31, go_sem, q0, q1, q2]) rfl (bad_end rfl (hr2.far1 (b := w.heap.size) (i := 2) (by omega) (by omega) _) (only_setCell G3 (p := ⟨w.heap.size, 2, none⟩) (.inr (Nat.le_refl _)) _) hlt ⟨hfo, hfl, hx⟩ (by omega) rfl)
      · have h22 : (v == 2) = false := by simpa using h2
        clear v0 h0 h1 h2
        have b1 := hr1.1
        have c0 : w1.cell? ⟨w.heap.size, 0, none⟩ = some (.int .i64 o) := k1.cell 0
        have c1 : w1.cell? ⟨w.heap.size, 1, none⟩ = some (.int .i64 l) := k1.cell 1
        have c2 : w1.cell? ⟨w.heap.size, 2, none⟩ = some (.int .i64 m) := k1.cell 2
        have f0 := k1.frozen 0
        have f1 := k1.frozen 1
        have f2 := k1.frozen 2
        have d0 : w1.cell? ⟨w.heap.size + 1, 0, none⟩ = some (.int .i64 0) := j1.cell 0
        have d1 : w1.cell? ⟨w.heap.size + 1, 1, none⟩ = some (.int .i64 0) := j1.cell 1
        have d2 : w1.cell? ⟨w.heap.size + 1, 2, none⟩ = some (.int .i64 0) := j1.cell 2
        have e0 := j1.frozen 0
        have e1 := j1.frozen 1
        have e2 := j1.frozen 2
        go_wp2_with fail
        have q := blk3_set j1 (.int .i64 o) (.int .i64 l) (.int .i64 m)
        have q0 := q.cell 0
        have q1 := q.cell 1
        have q2 := q.cell 2
        exact bodyPost_ret (v := sv o l m) (by simp [results, Tryd.results31, go_sem, q0, q1, q2]) rfl (bad_end rfl hr1 G2 hlt ⟨hfo, hfl, hfm⟩ (by omega) rfl)
end Go.Proofs.YthdmnpjdpfeleaaDoor

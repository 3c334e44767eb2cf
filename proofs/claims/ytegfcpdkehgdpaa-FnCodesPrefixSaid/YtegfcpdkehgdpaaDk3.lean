/- The walk of a drawn fault in what is known. Conditions: a reader at fewer than 8500000 picks; something that can be known. -/
import Derived.Test.YtegfcpdkehgdpaaDk2
import Derived.Test.YtegfcpdkehgdpaaCw1
namespace Go.Proofs.Ytegfcpdkehgdpaa
open Go.RowKit

theorem Rd.row {w w' : World} {B g p base s n : Nat} {e : TypeId} {v : Value} {xs : List Value} (h : Rd w B g p) (hO : w.ownsRow base e s v n xs) (hg : w.grownBy w' v.ownBlock) (hne : e ≠ 99) (hB : B ≤ base) : Rd w' B g p := by
  obtain ⟨cs, hb⟩ := h.blk
  have h1 := h.1
  have h2 := h.lt
  exact h.keep (hg.block g h2 (own_blk_ne hO hb hne).symm) (fun k hk => hg.block k (by omega) (fun e => by have := (hO.lt k e.symm).1; omega))
theorem grown_row {w0 w w' : World} {row : Option Nat} {base s n : Nat} {e : TypeId} {v : Value} {xs : List Value} (h : w0.grownBy w row) (hO : w.ownsRow base e s v n xs) (hg : w.grownBy w' v.ownBlock) (hb : w0.heap.size ≤ base) : w0.grownBy w' row :=
  ⟨hg.os.trans h.os, hg.tape.trans h.tape, hg.output.trans h.output, Nat.le_trans h.size hg.size, fun k hk hne => (hg.block k (Nat.lt_of_lt_of_le hk h.size) (fun e => by have := (hO.lt k e.symm).1; omega)).trans (h.block k hk hne)⟩
theorem own_rd {w w' : World} {B g p base s n : Nat} {e : TypeId} {v : Value} {xs : List Value} (h : w.ownsRow base e s v n xs) (hr : Rd w B g p) (hg : w.grownBy w' (some g)) (hne : e ≠ 99) : w'.ownsRow base e s v n xs := by
  obtain ⟨cs, hb⟩ := hr.blk
  exact h.kept hg (.inr (own_blk_ne h hb hne))
theorem keepB6 {W W' : World} {b : Nat} {v0 v1 v2 v3 v4 v5 : Value} (h : W.cell? ⟨b, 0, none⟩ = some v0 ∧ W.cell? ⟨b, 1, none⟩ = some v1 ∧ W.cell? ⟨b, 2, none⟩ = some v2 ∧ W.cell? ⟨b, 3, none⟩ = some v3 ∧ W.cell? ⟨b, 4, none⟩ = some v4 ∧ W.cell? ⟨b, 5, none⟩ = some v5) (hb : Below W.heap.size W W') : W'.cell? ⟨b, 0, none⟩ = some v0 ∧ W'.cell? ⟨b, 1, none⟩ = some v1 ∧ W'.cell? ⟨b, 2, none⟩ = some v2 ∧ W'.cell? ⟨b, 3, none⟩ = some v3 ∧ W'.cell? ⟨b, 4, none⟩ = some v4 ∧ W'.cell? ⟨b, 5, none⟩ = some v5 :=
  ⟨cell_keep hb h.1, cell_keep hb h.2.1, cell_keep hb h.2.2.1, cell_keep hb h.2.2.2.1, cell_keep hb h.2.2.2.2.1, cell_keep hb h.2.2.2.2.2⟩
/-- Something drawn, whether it can be known or not. -/
def BadK (B g p d base : Nat) (w : World) (e : Ending) (w' : World) : Prop :=
  ∃ (o l m : Int) (A : Option Addr) (c : Nat) (b t : Int) (ps : List (Int × Int)), e = .returned (kv o l m A ps.length c b t) ∧ ps.length ≤ 200 ∧ ps.length ≤ c ∧ OwnP w' base A ps ∧ RdPost B g p d w w'
theorem bad_mk {B g p d base p' : Nat} {w w' : World} {o l m : Int} {A : Option Addr} {n c : Nat} {b t : Int} {ps : List (Int × Int)} (hn : n = ps.length) (h2 : ps.length ≤ 200) (h3 : ps.length ≤ c) (h4 : OwnP w' base A ps) (h5 : Rd w' B g p') (h6 : w.grownBy w' (some g)) (h7 : p' ≤ p + d) :
    BadK B g p d base w (.returned (kv o l m A n c b t)) w' := by subst hn; exact ⟨o, l, m, A, c, b, t, ps, rfl, h2, h3, h4, ⟨p', h7, h5⟩, h6⟩

set_option maxRecDepth 100000 in
set_option maxHeartbeats 3000000 in
theorem rd_l2Bad (B g p base : Nat) (o l m : Int) (A : Option Addr) (c : Nat) (b t : Int) (ps : List (Int × Int)) (w : World) (h : Rd w B g p) (hp : p ≤ 8500000) (hP : OwnP w base A ps) (hbase : base ≤ w.heap.size) (hk : Sx.kOK o l m ps b t = true) (hln : ps.length ≤ 100) (hcap : ps.length ≤ c) :
    Calls Try.prog 89 #[.pointer (some ⟨g, 0, none⟩), kv o l m A ps.length c b t] w (BadK B g p 8 base w) := by
  obtain ⟨n0, n1, n2, n3, n4, n5⟩ := Sx.kOK_nums hk
  have hok := (Sx.kOK_of hk).1
  obtain ⟨i0, hi0, hz0, hz1, hz2⟩ := info_parts try_infoP
  have hlt := h.lt
  have hbase2 : base ≤ w.heap.size + 2 := by omega
  have CC := hide (fun wx => spec_l1Clear o l m wx (by omega) (by omega))
  have CE := hide (fun wx => spec_l1End o l m wx (by omega) (by omega))
  have CN := hide (fun wx => spec_l2Next o l m A ps.length c b t wx (by omega) n1 (by omega))
  have B0 : Below w.heap.size w ((w.alloc (.cells #[.int .i64 o, .int .i64 l, .int .i64 m, .slice A ps.length c, .int .i64 b, .int .i64 t] 31)).alloc (.cells #[.int .i64 0, .int .i64 0, .int .i64 0, .slice none 0 0, .int .i64 0, .int .i64 0] 31)) := ((Below.refl _ _).alloc (Nat.le_refl _) _).alloc (by simp) _
  have K0 := (Blk.new w 31 #[.int .i64 o, .int .i64 l, .int .i64 m, .slice A ps.length c, .int .i64 b, .int .i64 t]).alloc (.cells #[.int .i64 0, .int .i64 0, .int .i64 0, .slice none 0 0, .int .i64 0, .int .i64 0] 31)
  have R0 := blk_new2 w (.cells #[.int .i64 o, .int .i64 l, .int .i64 m, .slice A ps.length c, .int .i64 b, .int .i64 t] 31) 31 #[.int .i64 0, .int .i64 0, .int .i64 0, .slice none 0 0, .int .i64 0, .int .i64 0]
  have P0 := hP.below B0
  have H0 := h.below B0
  have G0 := below_grownBy B0 (some g)
  clear h B0 hP hk
  go_enter Try.func89, Try.ntmps89
  go_wp2_with fail
  refine (rd_pick B g p 40 _ H0 (by omega) (by omega) (by omega)).mono ?_; rintro e w1 ⟨v, rfl, v0, _, _, hr1, hg1⟩
  have R1 := Blk.rd R0 H0 hg1 (by decide)
  have K1 := Blk.rd K0 H0 hg1 (by decide)
  have P1 := OwnP.rd P0 H0 hg1
  have H1 := hr1
  have G1 := grown_trans' G0 hg1
  clear R0 K0 P0 H0 G0 hr1 hg1
  have a0 : w1.cell? ⟨w.heap.size, 0, none⟩ = some (.int .i64 o) := K1.cell 0
  have a1 : w1.cell? ⟨w.heap.size, 1, none⟩ = some (.int .i64 l) := K1.cell 1
  have a2 : w1.cell? ⟨w.heap.size, 2, none⟩ = some (.int .i64 m) := K1.cell 2
  have a3 : w1.cell? ⟨w.heap.size, 3, none⟩ = some (.slice A ps.length c) := K1.cell 3
  have a4 : w1.cell? ⟨w.heap.size, 4, none⟩ = some (.int .i64 b) := K1.cell 4
  have a5 : w1.cell? ⟨w.heap.size, 5, none⟩ = some (.int .i64 t) := K1.cell 5
  by_cases h0v : v = 0
  · subst h0v
    go_wp2_with fail
    refine (rd_bad B g (p + 1) o l m w1 H1 (by omega) (fits_set hok) (by omega)).mono ?_; rintro e w2 ⟨o2, l2, m2, rfl, _, p2, hp2, hr2, hg2⟩
    have R2 := Blk.rd R1 H1 hg2 (by decide)
    have K2 := Blk.rd K1 H1 hg2 (by decide)
    have P2 := OwnP.rd P1 H1 hg2
    have H2 := hr2
    have G2 := grown_trans' G1 hg2
    clear R1 K1 P1 H1 G1 hr2 hg2 a0 a1 a2 a3 a4 a5
    have a0 : w2.cell? ⟨w.heap.size, 0, none⟩ = some (.int .i64 o) := K2.cell 0
    have a1 : w2.cell? ⟨w.heap.size, 1, none⟩ = some (.int .i64 l) := K2.cell 1
    have a2 : w2.cell? ⟨w.heap.size, 2, none⟩ = some (.int .i64 m) := K2.cell 2
    have a3 : w2.cell? ⟨w.heap.size, 3, none⟩ = some (.slice A ps.length c) := K2.cell 3
    have a4 : w2.cell? ⟨w.heap.size, 4, none⟩ = some (.int .i64 b) := K2.cell 4
    have a5 : w2.cell? ⟨w.heap.size, 5, none⟩ = some (.int .i64 t) := K2.cell 5
    have fa0 := K2.frozen 0
    have fa1 := K2.frozen 1
    have fa2 := K2.frozen 2
    have fa3 := K2.frozen 3
    have fa4 := K2.frozen 4
    have fa5 := K2.frozen 5
    have HG : Hid (w2.grownBy (((w2.setCell ⟨w.heap.size, 0, none⟩ (.int .i64 o2)).setCell ⟨w.heap.size, 1, none⟩ (.int .i64 l2)).setCell ⟨w.heap.size, 2, none⟩ (.int .i64 m2)) (some w.heap.size)) := hide (only_setCell (only_setCell (only_setCell (World.grownBy.refl w2 _) (p := ⟨w.heap.size, 0, none⟩) (.inl rfl) _) (p := ⟨w.heap.size, 1, none⟩) (.inl rfl) _) (p := ⟨w.heap.size, 2, none⟩) (.inl rfl) _)
    have K3 := ((K2.set_ 0 (.int .i64 o2)).set_ 1 (.int .i64 l2)).set_ 2 (.int .i64 m2)
    have R3 := ((R2.far (p := ⟨w.heap.size, 0, none⟩) (by simp) (.int .i64 o2)).far (p := ⟨w.heap.size, 1, none⟩) (by simp) (.int .i64 l2)).far (p := ⟨w.heap.size, 2, none⟩) (by simp) (.int .i64 m2)
    have P3 := P2.only HG.out K2 (by decide)
    have H3 := H2.only HG.out (by omega) (by have := H2.1; omega)
    have G3 := only_setCell (only_setCell (only_setCell G2 (p := ⟨w.heap.size, 0, none⟩) (.inr (Nat.le_refl _)) (.int .i64 o2)) (p := ⟨w.heap.size, 1, none⟩) (.inr (Nat.le_refl _)) (.int .i64 l2)) (p := ⟨w.heap.size, 2, none⟩) (.inr (Nat.le_refl _)) (.int .i64 m2)
    have a0 : (((w2.setCell ⟨w.heap.size, 0, none⟩ (.int .i64 o2)).setCell ⟨w.heap.size, 1, none⟩ (.int .i64 l2)).setCell ⟨w.heap.size, 2, none⟩ (.int .i64 m2)).cell? ⟨w.heap.size, 0, none⟩ = some (.int .i64 o2) := K3.cell 0
    have a1 : (((w2.setCell ⟨w.heap.size, 0, none⟩ (.int .i64 o2)).setCell ⟨w.heap.size, 1, none⟩ (.int .i64 l2)).setCell ⟨w.heap.size, 2, none⟩ (.int .i64 m2)).cell? ⟨w.heap.size, 1, none⟩ = some (.int .i64 l2) := K3.cell 1
    have a2 : (((w2.setCell ⟨w.heap.size, 0, none⟩ (.int .i64 o2)).setCell ⟨w.heap.size, 1, none⟩ (.int .i64 l2)).setCell ⟨w.heap.size, 2, none⟩ (.int .i64 m2)).cell? ⟨w.heap.size, 2, none⟩ = some (.int .i64 m2) := K3.cell 2
    have a3 : (((w2.setCell ⟨w.heap.size, 0, none⟩ (.int .i64 o2)).setCell ⟨w.heap.size, 1, none⟩ (.int .i64 l2)).setCell ⟨w.heap.size, 2, none⟩ (.int .i64 m2)).cell? ⟨w.heap.size, 3, none⟩ = some (.slice A ps.length c) := K3.cell 3
    have a4 : (((w2.setCell ⟨w.heap.size, 0, none⟩ (.int .i64 o2)).setCell ⟨w.heap.size, 1, none⟩ (.int .i64 l2)).setCell ⟨w.heap.size, 2, none⟩ (.int .i64 m2)).cell? ⟨w.heap.size, 4, none⟩ = some (.int .i64 b) := K3.cell 4
    have a5 : (((w2.setCell ⟨w.heap.size, 0, none⟩ (.int .i64 o2)).setCell ⟨w.heap.size, 1, none⟩ (.int .i64 l2)).setCell ⟨w.heap.size, 2, none⟩ (.int .i64 m2)).cell? ⟨w.heap.size, 5, none⟩ = some (.int .i64 t) := K3.cell 5
    have r0 : (((w2.setCell ⟨w.heap.size, 0, none⟩ (.int .i64 o2)).setCell ⟨w.heap.size, 1, none⟩ (.int .i64 l2)).setCell ⟨w.heap.size, 2, none⟩ (.int .i64 m2)).cell? ⟨(w.heap.size + 1), 0, none⟩ = some (.int .i64 0) := R3.cell 0
    have r1 : (((w2.setCell ⟨w.heap.size, 0, none⟩ (.int .i64 o2)).setCell ⟨w.heap.size, 1, none⟩ (.int .i64 l2)).setCell ⟨w.heap.size, 2, none⟩ (.int .i64 m2)).cell? ⟨(w.heap.size + 1), 1, none⟩ = some (.int .i64 0) := R3.cell 1
    have r2 : (((w2.setCell ⟨w.heap.size, 0, none⟩ (.int .i64 o2)).setCell ⟨w.heap.size, 1, none⟩ (.int .i64 l2)).setCell ⟨w.heap.size, 2, none⟩ (.int .i64 m2)).cell? ⟨(w.heap.size + 1), 2, none⟩ = some (.int .i64 0) := R3.cell 2
    have r3 : (((w2.setCell ⟨w.heap.size, 0, none⟩ (.int .i64 o2)).setCell ⟨w.heap.size, 1, none⟩ (.int .i64 l2)).setCell ⟨w.heap.size, 2, none⟩ (.int .i64 m2)).cell? ⟨(w.heap.size + 1), 3, none⟩ = some (.slice none 0 0) := R3.cell 3
    have r4 : (((w2.setCell ⟨w.heap.size, 0, none⟩ (.int .i64 o2)).setCell ⟨w.heap.size, 1, none⟩ (.int .i64 l2)).setCell ⟨w.heap.size, 2, none⟩ (.int .i64 m2)).cell? ⟨(w.heap.size + 1), 4, none⟩ = some (.int .i64 0) := R3.cell 4
    have r5 : (((w2.setCell ⟨w.heap.size, 0, none⟩ (.int .i64 o2)).setCell ⟨w.heap.size, 1, none⟩ (.int .i64 l2)).setCell ⟨w.heap.size, 2, none⟩ (.int .i64 m2)).cell? ⟨(w.heap.size + 1), 5, none⟩ = some (.int .i64 0) := R3.cell 5
    have fr0 := R3.frozen 0
    have fr1 := R3.frozen 1
    have fr2 := R3.frozen 2
    have fr3 := R3.frozen 3
    have fr4 := R3.frozen 4
    have fr5 := R3.frozen 5
    go_wp2_with fail
    have q := blk6_set R3 (.int .i64 o2) (.int .i64 l2) (.int .i64 m2) (.slice A ps.length c) (.int .i64 b) (.int .i64 t)
    have PF := P3.only (only6 (((w2.setCell ⟨w.heap.size, 0, none⟩ (.int .i64 o2)).setCell ⟨w.heap.size, 1, none⟩ (.int .i64 l2)).setCell ⟨w.heap.size, 2, none⟩ (.int .i64 m2)) (w.heap.size + 1) (.int .i64 o2) (.int .i64 l2) (.int .i64 m2) (.slice A ps.length c) (.int .i64 b) (.int .i64 t)) R3 (by decide)
    have HF := H3.only (only6 (((w2.setCell ⟨w.heap.size, 0, none⟩ (.int .i64 o2)).setCell ⟨w.heap.size, 1, none⟩ (.int .i64 l2)).setCell ⟨w.heap.size, 2, none⟩ (.int .i64 m2)) (w.heap.size + 1) (.int .i64 o2) (.int .i64 l2) (.int .i64 m2) (.slice A ps.length c) (.int .i64 b) (.int .i64 t)) (by omega) (by have := H3.1; omega)
    have GF := only6r G3 (Nat.le_succ w.heap.size) (.int .i64 o2) (.int .i64 l2) (.int .i64 m2) (.slice A ps.length c) (.int .i64 b) (.int .i64 t)
    have q0 := q.cell 0
    have q1 := q.cell 1
    have q2 := q.cell 2
    have q3 := q.cell 3
    have q4 := q.cell 4
    have q5 := q.cell 5
    exact bodyPost_ret (v := kv o2 l2 m2 A ps.length c b t) (by simp [results, Try.results89, go_sem, q0, q1, q2, q3, q4, q5]) rfl (bad_mk rfl (by omega) hcap PF HF GF (by omega))
  have e0v : (v == 0) = false := by rw [beq_eq_false_iff_ne]; exact h0v
  by_cases h1v : v = 1
  · subst h1v
    have e1 : IntKind.i64.wrap ((ps.length : Int) + 1) = (ps.length : Int) + 1 := IntWalk.i64_in _ (by omega)
    go_wp2_with fail
    refine (num_list [-1, (ps.length : Int) + 1, 9223372036854775807] 3 H1 (by omega) (by simp) (by simp) (Q := fun _ => True) (fun _ _ => trivial)).mono ?_; rintro e w2 ⟨x, rfl, _, hr2, hg2⟩
    have R2 := Blk.rd R1 H1 hg2 (by decide)
    have K2 := Blk.rd K1 H1 hg2 (by decide)
    have P2 := OwnP.rd P1 H1 hg2
    have H2 := hr2
    have G2 := grown_trans' G1 hg2
    clear R1 K1 P1 H1 G1 hr2 hg2 a0 a1 a2 a3 a4 a5
    have k4 : w2.cell? ⟨w.heap.size, 4, none⟩ = some (.int .i64 b) := K2.cell 4
    have fk4 := K2.frozen 4
    have K3 := K2.set_ 4 (.int .i64 x)
    have HG := hide (only_one w2 w.heap.size 4 (.int .i64 x))
    have R3 := R2.far (p := ⟨w.heap.size, 4, none⟩) (by simp) (.int .i64 x)
    have P3 := P2.only HG.out K2 (by decide)
    have H3 := H2.only HG.out (by omega) (by have := H2.1; omega)
    have G3 := only_setCell G2 (p := ⟨w.heap.size, 4, none⟩) (.inr (Nat.le_refl _)) (.int .i64 x)
    have a0 : (w2.setCell ⟨w.heap.size, 4, none⟩ (.int .i64 x)).cell? ⟨w.heap.size, 0, none⟩ = some (.int .i64 o) := K3.cell 0
    have a1 : (w2.setCell ⟨w.heap.size, 4, none⟩ (.int .i64 x)).cell? ⟨w.heap.size, 1, none⟩ = some (.int .i64 l) := K3.cell 1
    have a2 : (w2.setCell ⟨w.heap.size, 4, none⟩ (.int .i64 x)).cell? ⟨w.heap.size, 2, none⟩ = some (.int .i64 m) := K3.cell 2
    have a3 : (w2.setCell ⟨w.heap.size, 4, none⟩ (.int .i64 x)).cell? ⟨w.heap.size, 3, none⟩ = some (.slice A ps.length c) := K3.cell 3
    have a4 : (w2.setCell ⟨w.heap.size, 4, none⟩ (.int .i64 x)).cell? ⟨w.heap.size, 4, none⟩ = some (.int .i64 x) := K3.cell 4
    have a5 : (w2.setCell ⟨w.heap.size, 4, none⟩ (.int .i64 x)).cell? ⟨w.heap.size, 5, none⟩ = some (.int .i64 t) := K3.cell 5
    have r0 : (w2.setCell ⟨w.heap.size, 4, none⟩ (.int .i64 x)).cell? ⟨(w.heap.size + 1), 0, none⟩ = some (.int .i64 0) := R3.cell 0
    have r1 : (w2.setCell ⟨w.heap.size, 4, none⟩ (.int .i64 x)).cell? ⟨(w.heap.size + 1), 1, none⟩ = some (.int .i64 0) := R3.cell 1
    have r2 : (w2.setCell ⟨w.heap.size, 4, none⟩ (.int .i64 x)).cell? ⟨(w.heap.size + 1), 2, none⟩ = some (.int .i64 0) := R3.cell 2
    have r3 : (w2.setCell ⟨w.heap.size, 4, none⟩ (.int .i64 x)).cell? ⟨(w.heap.size + 1), 3, none⟩ = some (.slice none 0 0) := R3.cell 3
    have r4 : (w2.setCell ⟨w.heap.size, 4, none⟩ (.int .i64 x)).cell? ⟨(w.heap.size + 1), 4, none⟩ = some (.int .i64 0) := R3.cell 4
    have r5 : (w2.setCell ⟨w.heap.size, 4, none⟩ (.int .i64 x)).cell? ⟨(w.heap.size + 1), 5, none⟩ = some (.int .i64 0) := R3.cell 5
    have fr0 := R3.frozen 0
    have fr1 := R3.frozen 1
    have fr2 := R3.frozen 2
    have fr3 := R3.frozen 3
    have fr4 := R3.frozen 4
    have fr5 := R3.frozen 5
    go_wp2_with fail
    have q := blk6_set R3 (.int .i64 o) (.int .i64 l) (.int .i64 m) (.slice A ps.length c) (.int .i64 x) (.int .i64 t)
    have PF := P3.only (only6 (w2.setCell ⟨w.heap.size, 4, none⟩ (.int .i64 x)) (w.heap.size + 1) (.int .i64 o) (.int .i64 l) (.int .i64 m) (.slice A ps.length c) (.int .i64 x) (.int .i64 t)) R3 (by decide)
    have HF := H3.only (only6 (w2.setCell ⟨w.heap.size, 4, none⟩ (.int .i64 x)) (w.heap.size + 1) (.int .i64 o) (.int .i64 l) (.int .i64 m) (.slice A ps.length c) (.int .i64 x) (.int .i64 t)) (by omega) (by have := H3.1; omega)
    have GF := only6r G3 (Nat.le_succ w.heap.size) (.int .i64 o) (.int .i64 l) (.int .i64 m) (.slice A ps.length c) (.int .i64 x) (.int .i64 t)
    have q0 := q.cell 0
    have q1 := q.cell 1
    have q2 := q.cell 2
    have q3 := q.cell 3
    have q4 := q.cell 4
    have q5 := q.cell 5
    exact bodyPost_ret (v := kv o l m A ps.length c x t) (by simp [results, Try.results89, go_sem, q0, q1, q2, q3, q4, q5]) rfl (bad_mk rfl (by omega) hcap PF HF GF (by omega))
  have e1v : (v == 1) = false := by rw [beq_eq_false_iff_ne]; exact h1v
  by_cases h2v : v = 2
  · subst h2v
    have s7 : w1.drew.cell? ⟨w.heap.size, 0, none⟩ = some (.int .i64 o) ∧ w1.drew.cell? ⟨w.heap.size, 1, none⟩ = some (.int .i64 l) ∧ w1.drew.cell? ⟨w.heap.size, 2, none⟩ = some (.int .i64 m) ∧ w1.drew.cell? ⟨w.heap.size, 3, none⟩ = some (.slice A ps.length c) ∧ w1.drew.cell? ⟨w.heap.size, 4, none⟩ = some (.int .i64 b) ∧ w1.drew.cell? ⟨w.heap.size, 5, none⟩ = some (.int .i64 t) := ⟨K1.cell 0, K1.cell 1, K1.cell 2, K1.cell 3, K1.cell 4, K1.cell 5⟩
    go_wp2_with fail
    refine wp_region_final_drew (S := (fun W => W.cell? ⟨w.heap.size, 0, none⟩ = some (.int .i64 o) ∧ W.cell? ⟨w.heap.size, 1, none⟩ = some (.int .i64 l) ∧ W.cell? ⟨w.heap.size, 2, none⟩ = some (.int .i64 m) ∧ W.cell? ⟨w.heap.size, 3, none⟩ = some (.slice A ps.length c) ∧ W.cell? ⟨w.heap.size, 4, none⟩ = some (.int .i64 b) ∧ W.cell? ⟨w.heap.size, 5, none⟩ = some (.int .i64 t))) 12 (by kernel_rfl) (by first | assumption | exact s7) (fun hHeld => ?_)
    refine wpAnyF_take (i := 0) (oi := { dst := some 26, op := Op.move (Operand.tmp 0), type := 82, pos := "l2_words.go:386", after := #[], guard := none }) (v := ?_) rfl (by kernel_rfl) (by kernel_rfl) (by kernel_rfl) (by kernel_rfl) (fun _ _ _ h => h) (Or.inl ⟨by rfl, ?_⟩) (by assumption) ?_; rotate_left
    · intro W hW; (try dsimp only at hW); go_simp;  try (with_reducible rfl)
    try simp only [Act.put, List.setIfInBounds_toArray, List.set_cons_zero, List.set_cons_succ]
    refine wpAnyF_take (i := 1) (oi := { dst := some 27, op := Op.fieldAddr 31 (Operand.tmp 3) 0, type := 0, pos := "l2_words.go:386", after := #[], guard := none }) (v := ?_) rfl (by kernel_rfl) (by kernel_rfl) (by kernel_rfl) (by kernel_rfl) (fun _ _ _ h => h) (Or.inl ⟨by rfl, ?_⟩) (by assumption) ?_; rotate_left
    · intro W hW; (try dsimp only at hW); go_simp;  try (with_reducible rfl)
    try simp only [Act.put, List.setIfInBounds_toArray, List.set_cons_zero, List.set_cons_succ]
    refine wpAnyF_take (i := 2) (oi := { dst := some 28, op := Op.load 28 (Operand.tmp 27), type := 28, pos := "l2_words.go:386", after := #[{ on := 1, ground := Ground.data }], guard := none }) (v := ?_) rfl (by kernel_rfl) (by kernel_rfl) (by kernel_rfl) (by kernel_rfl) (fun _ _ _ h => h) (Or.inl ⟨by rfl, ?_⟩) (by assumption) ?_; rotate_left
    · intro W hW; (try dsimp only at hW); go_simp;  try (with_reducible rfl)
    try simp only [Act.put, List.setIfInBounds_toArray, List.set_cons_zero, List.set_cons_succ]
    refine wpAnyF_take (i := 4) (oi := { dst := some 30, op := Op.fieldAddr 31 (Operand.tmp 3) 0, type := 0, pos := "l2_words.go:386", after := #[], guard := none }) (v := ?_) rfl (by kernel_rfl) (by kernel_rfl) (by kernel_rfl) (by kernel_rfl) (fun _ _ _ h => h) (Or.inl ⟨by rfl, ?_⟩) (by assumption) ?_; rotate_left
    · intro W hW; (try dsimp only at hW); go_simp;  try (with_reducible rfl)
    try simp only [Act.put, List.setIfInBounds_toArray, List.set_cons_zero, List.set_cons_succ]
    refine wpAnyF_take (i := 5) (oi := { dst := some 31, op := Op.load 28 (Operand.tmp 30), type := 28, pos := "l2_words.go:386", after := #[{ on := 4, ground := Ground.data }], guard := none }) (v := ?_) rfl (by kernel_rfl) (by kernel_rfl) (by kernel_rfl) (by kernel_rfl) (fun _ _ _ h => h) (Or.inl ⟨by rfl, ?_⟩) (by assumption) ?_; rotate_left
    · intro W hW; (try dsimp only at hW); go_simp;  try (with_reducible rfl)
    try simp only [Act.put, List.setIfInBounds_toArray, List.set_cons_zero, List.set_cons_succ]
    refine wpAnyF_take (i := 7) (oi := { dst := some 33, op := Op.load 31 (Operand.tmp 3), type := 31, pos := "l2_words.go:386", after := #[], guard := none }) (v := ?_) rfl (by kernel_rfl) (by kernel_rfl) (by kernel_rfl) (by kernel_rfl) (fun _ _ _ h => h) (Or.inl ⟨by rfl, ?_⟩) (by assumption) ?_; rotate_left
    · intro W hW; (try dsimp only at hW); go_simp;  try (with_reducible rfl)
    try simp only [Act.put, List.setIfInBounds_toArray, List.set_cons_zero, List.set_cons_succ]
    refine wpAnyF_ready (rs := [3]) (by kernel_rfl) (by simp) (AllReadyF.cons (i := 3) (o := { dst := some 29, op := Op.call { callee := Callee.value (Operand.func 57), args := #[Operand.tmp 28], argTypes := #[28] }, type := 3, pos := "l2_words.go:386", after := #[{ on := 2, ground := Ground.data }], guard := none }) rfl (fun K hK => ?_) AllReadyF.nil)
    go_simp
    refine ((unhide CC) _).mono ?_; rintro e w2 ⟨rfl, hb2⟩
    have R2 := Blk.below (Blk.drew R1) hb2 R1.lt
    have K2 := Blk.below (Blk.drew K1) hb2 K1.lt
    have P2 := OwnP.below (OwnP.below P1 (Below.refl _ _).drew) hb2
    have H2 := Rd.below (Rd.drew H1) hb2
    have G2 := grown_more (only_drew G1) hb2
    have HK2 : w2.cell? ⟨w.heap.size, 0, none⟩ = some (.int .i64 o) ∧ w2.cell? ⟨w.heap.size, 1, none⟩ = some (.int .i64 l) ∧ w2.cell? ⟨w.heap.size, 2, none⟩ = some (.int .i64 m) ∧ w2.cell? ⟨w.heap.size, 3, none⟩ = some (.slice A ps.length c) ∧ w2.cell? ⟨w.heap.size, 4, none⟩ = some (.int .i64 b) ∧ w2.cell? ⟨w.heap.size, 5, none⟩ = some (.int .i64 t) := ⟨K2.cell 0, K2.cell 1, K2.cell 2, K2.cell 3, K2.cell 4, K2.cell 5⟩
    try go_wp2_with fail
    refine hK.out _ _ (by (try dsimp only); first | exact HK2) (fun hHeld => ?_)
    clear hK K
    try simp only [Act.put, List.setIfInBounds_toArray, List.set_cons_zero, List.set_cons_succ]
    refine wpAnyF_ready (rs := [6]) (by kernel_rfl) (by simp) (AllReadyF.cons (i := 6) (o := { dst := some 32, op := Op.call { callee := Callee.value (Operand.func 87), args := #[Operand.tmp 31], argTypes := #[28] }, type := 3, pos := "l2_words.go:386", after := #[{ on := 5, ground := Ground.data }, { on := 3, ground := Ground.chain }], guard := none }) rfl (fun K hK => ?_) AllReadyF.nil)
    go_simp
    refine ((unhide CE) _).mono ?_; rintro e w3 ⟨rfl, hb3⟩
    have R3 := Blk.below R2 hb3 R2.lt
    have K3 := Blk.below K2 hb3 K2.lt
    have P3 := OwnP.below P2 hb3
    have H3 := Rd.below H2 hb3
    have G3 := grown_more G2 hb3
    have HK3 : w3.cell? ⟨w.heap.size, 0, none⟩ = some (.int .i64 o) ∧ w3.cell? ⟨w.heap.size, 1, none⟩ = some (.int .i64 l) ∧ w3.cell? ⟨w.heap.size, 2, none⟩ = some (.int .i64 m) ∧ w3.cell? ⟨w.heap.size, 3, none⟩ = some (.slice A ps.length c) ∧ w3.cell? ⟨w.heap.size, 4, none⟩ = some (.int .i64 b) ∧ w3.cell? ⟨w.heap.size, 5, none⟩ = some (.int .i64 t) := ⟨K3.cell 0, K3.cell 1, K3.cell 2, K3.cell 3, K3.cell 4, K3.cell 5⟩
    try go_wp2_with fail
    refine hK.out _ _ (by (try dsimp only); first | exact HK3) (fun hHeld => ?_)
    clear hK K
    try simp only [Act.put, List.setIfInBounds_toArray, List.set_cons_zero, List.set_cons_succ]
    refine wpAnyF_ready (rs := [8]) (by kernel_rfl) (by simp) (AllReadyF.cons (i := 8) (o := { dst := some 34, op := Op.call { callee := Callee.value (Operand.func 88), args := #[Operand.tmp 33], argTypes := #[31] }, type := 3, pos := "l2_words.go:386", after := #[{ on := 7, ground := Ground.data }, { on := 6, ground := Ground.chain }], guard := none }) rfl (fun K hK => ?_) AllReadyF.nil)
    go_simp
    refine ((unhide CN) _).mono ?_; rintro e w4 ⟨rfl, hb4⟩
    have R4 := Blk.below R3 hb4 R3.lt
    have K4 := Blk.below K3 hb4 K3.lt
    have P4 := OwnP.below P3 hb4
    have H4 := Rd.below H3 hb4
    have G4 := grown_more G3 hb4
    have HK4 : w4.cell? ⟨w.heap.size, 0, none⟩ = some (.int .i64 o) ∧ w4.cell? ⟨w.heap.size, 1, none⟩ = some (.int .i64 l) ∧ w4.cell? ⟨w.heap.size, 2, none⟩ = some (.int .i64 m) ∧ w4.cell? ⟨w.heap.size, 3, none⟩ = some (.slice A ps.length c) ∧ w4.cell? ⟨w.heap.size, 4, none⟩ = some (.int .i64 b) ∧ w4.cell? ⟨w.heap.size, 5, none⟩ = some (.int .i64 t) := ⟨K4.cell 0, K4.cell 1, K4.cell 2, K4.cell 3, K4.cell 4, K4.cell 5⟩
    try go_wp2_with fail
    refine hK.out _ _ (by (try dsimp only); first | exact HK4) (fun hHeld => ?_)
    clear hK K
    try simp only [Act.put, List.setIfInBounds_toArray, List.set_cons_zero, List.set_cons_succ]
    refine wpAnyF_ready (rs := [9]) (by kernel_rfl) (by simp) (AllReadyF.cons (i := 9) (o := { dst := some 35, op := Op.buildSlice 38 6 #[(0, Operand.const (Value.int IntKind.i64 (-1))), (1, Operand.const (Value.int IntKind.i64 (-2))), (2, Operand.tmp 29), (3, Operand.tmp 32), (4, Operand.tmp 34), (5, Operand.const (Value.int IntKind.i64 9223372036854775807))], type := 38, pos := "l2_words.go:386", after := #[{ on := 3, ground := Ground.data }, { on := 6, ground := Ground.data }, { on := 8, ground := Ground.data }], guard := none }) rfl (fun K hK => ?_) AllReadyF.nil)
    go_simp
    have BA : Below w4.heap.size w4 (w4.alloc (.cells #[.int .i64 (-1), .int .i64 (-2), .int .i64 (Sx.two l), .int .i64 (Sx.two l + 1), .int .i64 (Sx.two l + 2 + (ps.length : Int)), .int .i64 9223372036854775807] 3)) := (Below.refl _ _).alloc (Nat.le_refl _) _
    refine hK.out _ _ (by (try dsimp only); first | exact keepB6 hHeld BA) (fun hHeld => ?_)
    clear hK K
    try simp only [Act.put, List.setIfInBounds_toArray, List.set_cons_zero, List.set_cons_succ]
    refine wpAnyF_ready (rs := [10]) (by kernel_rfl) (by simp) (AllReadyF.cons (i := 10) (o := { dst := some 36, op := Op.call { callee := Callee.value (Operand.func 86), args := #[Operand.tmp 26, Operand.tmp 35], argTypes := #[82, 38] }, type := 3, pos := "l2_words.go:386", after := #[{ on := 0, ground := Ground.data }, { on := 9, ground := Ground.data }, { on := 8, ground := Ground.chain }], guard := none }) rfl (fun K hK => ?_) AllReadyF.nil)
    go_simp
    refine (num_list [-1, -2, Sx.two l, Sx.two l + 1, Sx.two l + 2 + (ps.length : Int), 9223372036854775807] 3 H4 (by omega) (by simp) (by simp) (Q := fun _ => True) (fun _ _ => trivial)).mono ?_; rintro e w5 ⟨x, rfl, _, hr5, hg5⟩
    have R5 := Blk.rd R4 H4 hg5 (by decide)
    have K5 := Blk.rd K4 H4 hg5 (by decide)
    have P5 := OwnP.rd P4 H4 hg5
    have H5 := hr5
    have G5 := grown_trans' G4 hg5
    have HK5 : w5.cell? ⟨w.heap.size, 0, none⟩ = some (.int .i64 o) ∧ w5.cell? ⟨w.heap.size, 1, none⟩ = some (.int .i64 l) ∧ w5.cell? ⟨w.heap.size, 2, none⟩ = some (.int .i64 m) ∧ w5.cell? ⟨w.heap.size, 3, none⟩ = some (.slice A ps.length c) ∧ w5.cell? ⟨w.heap.size, 4, none⟩ = some (.int .i64 b) ∧ w5.cell? ⟨w.heap.size, 5, none⟩ = some (.int .i64 t) := ⟨K5.cell 0, K5.cell 1, K5.cell 2, K5.cell 3, K5.cell 4, K5.cell 5⟩
    try go_wp2_with fail
    refine hK.out _ _ (by (try dsimp only); first | exact HK5) (fun hHeld => ?_)
    clear hK K
    try simp only [Act.put, List.setIfInBounds_toArray, List.set_cons_zero, List.set_cons_succ]
    refine wpAnyF_take (i := 11) (oi := { dst := some 37, op := Op.fieldAddr 31 (Operand.tmp 3) 3, type := 0, pos := "l2_words.go:386", after := #[{ on := 0, ground := Ground.phase }, { on := 1, ground := Ground.phase }, { on := 2, ground := Ground.phase }, { on := 3, ground := Ground.phase }, { on := 4, ground := Ground.phase }, { on := 5, ground := Ground.phase }, { on := 6, ground := Ground.phase }, { on := 7, ground := Ground.phase }, { on := 8, ground := Ground.phase }, { on := 9, ground := Ground.phase }, { on := 10, ground := Ground.phase }], guard := none }) (v := ?_) rfl (by kernel_rfl) (by kernel_rfl) (by kernel_rfl) (by kernel_rfl) (fun _ _ _ h => h) (Or.inl ⟨by rfl, ?_⟩) (by assumption) ?_; rotate_left
    · intro W hW; (try dsimp only at hW); go_simp;  try (with_reducible rfl)
    try simp only [Act.put, List.setIfInBounds_toArray, List.set_cons_zero, List.set_cons_succ]
    refine wpAnyF_ready (rs := [12]) (by kernel_rfl) (by simp) (AllReadyF.last (o := { dst := none, op := Op.store 3 (Operand.tmp 37) (Operand.tmp 36), type := 0, pos := "l2_words.go:386", after := #[{ on := 11, ground := Ground.data }, { on := 10, ground := Ground.data }, { on := 10, ground := Ground.chain }, { on := 0, ground := Ground.phase }, { on := 1, ground := Ground.phase }, { on := 2, ground := Ground.phase }, { on := 3, ground := Ground.phase }, { on := 4, ground := Ground.phase }, { on := 5, ground := Ground.phase }, { on := 6, ground := Ground.phase }, { on := 7, ground := Ground.phase }, { on := 8, ground := Ground.phase }, { on := 9, ground := Ground.phase }, { on := 10, ground := Ground.phase }], guard := none }) rfl (fun K hK => ?_))
    have k5 : w5.cell? ⟨w.heap.size, 5, none⟩ = some (.int .i64 t) := K5.cell 5
    have fk5 := K5.frozen 5
    have K6 := K5.set_ 5 (.int .i64 x)
    have HG := hide (only_one w5 w.heap.size 5 (.int .i64 x))
    have R6 := R5.far (p := ⟨w.heap.size, 5, none⟩) (by simp) (.int .i64 x)
    have P6 := P5.only HG.out K5 (by decide)
    have H6 := H5.only HG.out (by omega) (by have := H5.1; omega)
    have G6 := only_setCell G5 (p := ⟨w.heap.size, 5, none⟩) (.inr (Nat.le_refl _)) (.int .i64 x)
    go_simp
    clear hHeld k5 fk5
    refine hK.out _ _ ?_
    clear hK K
    try simp only [Act.put, List.setIfInBounds_toArray, List.set_cons_zero, List.set_cons_succ]
    refine wpAnyF_done (by kernel_rfl) ?_ _
    clear a0 a1 a2 a3 a4 a5
    have a0 : (w5.setCell ⟨w.heap.size, 5, none⟩ (.int .i64 x)).cell? ⟨w.heap.size, 0, none⟩ = some (.int .i64 o) := K6.cell 0
    have a1 : (w5.setCell ⟨w.heap.size, 5, none⟩ (.int .i64 x)).cell? ⟨w.heap.size, 1, none⟩ = some (.int .i64 l) := K6.cell 1
    have a2 : (w5.setCell ⟨w.heap.size, 5, none⟩ (.int .i64 x)).cell? ⟨w.heap.size, 2, none⟩ = some (.int .i64 m) := K6.cell 2
    have a3 : (w5.setCell ⟨w.heap.size, 5, none⟩ (.int .i64 x)).cell? ⟨w.heap.size, 3, none⟩ = some (.slice A ps.length c) := K6.cell 3
    have a4 : (w5.setCell ⟨w.heap.size, 5, none⟩ (.int .i64 x)).cell? ⟨w.heap.size, 4, none⟩ = some (.int .i64 b) := K6.cell 4
    have a5 : (w5.setCell ⟨w.heap.size, 5, none⟩ (.int .i64 x)).cell? ⟨w.heap.size, 5, none⟩ = some (.int .i64 x) := K6.cell 5
    have r0 : (w5.setCell ⟨w.heap.size, 5, none⟩ (.int .i64 x)).cell? ⟨(w.heap.size + 1), 0, none⟩ = some (.int .i64 0) := R6.cell 0
    have r1 : (w5.setCell ⟨w.heap.size, 5, none⟩ (.int .i64 x)).cell? ⟨(w.heap.size + 1), 1, none⟩ = some (.int .i64 0) := R6.cell 1
    have r2 : (w5.setCell ⟨w.heap.size, 5, none⟩ (.int .i64 x)).cell? ⟨(w.heap.size + 1), 2, none⟩ = some (.int .i64 0) := R6.cell 2
    have r3 : (w5.setCell ⟨w.heap.size, 5, none⟩ (.int .i64 x)).cell? ⟨(w.heap.size + 1), 3, none⟩ = some (.slice none 0 0) := R6.cell 3
    have r4 : (w5.setCell ⟨w.heap.size, 5, none⟩ (.int .i64 x)).cell? ⟨(w.heap.size + 1), 4, none⟩ = some (.int .i64 0) := R6.cell 4
    have r5 : (w5.setCell ⟨w.heap.size, 5, none⟩ (.int .i64 x)).cell? ⟨(w.heap.size + 1), 5, none⟩ = some (.int .i64 0) := R6.cell 5
    have fr0 := R6.frozen 0
    have fr1 := R6.frozen 1
    have fr2 := R6.frozen 2
    have fr3 := R6.frozen 3
    have fr4 := R6.frozen 4
    have fr5 := R6.frozen 5
    go_wp2_with fail
    have q := blk6_set R6 (.int .i64 o) (.int .i64 l) (.int .i64 m) (.slice A ps.length c) (.int .i64 b) (.int .i64 x)
    have PF := P6.only (only6 (w5.setCell ⟨w.heap.size, 5, none⟩ (.int .i64 x)) (w.heap.size + 1) (.int .i64 o) (.int .i64 l) (.int .i64 m) (.slice A ps.length c) (.int .i64 b) (.int .i64 x)) R6 (by decide)
    have HF := H6.only (only6 (w5.setCell ⟨w.heap.size, 5, none⟩ (.int .i64 x)) (w.heap.size + 1) (.int .i64 o) (.int .i64 l) (.int .i64 m) (.slice A ps.length c) (.int .i64 b) (.int .i64 x)) (by omega) (by have := H6.1; omega)
    have GF := only6r G6 (Nat.le_succ w.heap.size) (.int .i64 o) (.int .i64 l) (.int .i64 m) (.slice A ps.length c) (.int .i64 b) (.int .i64 x)
    have q0 := q.cell 0
    have q1 := q.cell 1
    have q2 := q.cell 2
    have q3 := q.cell 3
    have q4 := q.cell 4
    have q5 := q.cell 5
    exact bodyPost_ret (v := kv o l m A ps.length c b x) (by simp [results, Try.results89, go_sem, q0, q1, q2, q3, q4, q5]) rfl (bad_mk rfl (by omega) hcap PF HF GF (by omega))
  have e2v : (v == 2) = false := by rw [beq_eq_false_iff_ne]; exact h2v
  by_cases h3v : v = 3
  · subst h3v
    have s9 : w1.drew.cell? ⟨w.heap.size, 0, none⟩ = some (.int .i64 o) ∧ w1.drew.cell? ⟨w.heap.size, 1, none⟩ = some (.int .i64 l) ∧ w1.drew.cell? ⟨w.heap.size, 2, none⟩ = some (.int .i64 m) ∧ w1.drew.cell? ⟨w.heap.size, 3, none⟩ = some (.slice A ps.length c) ∧ w1.drew.cell? ⟨w.heap.size, 4, none⟩ = some (.int .i64 b) ∧ w1.drew.cell? ⟨w.heap.size, 5, none⟩ = some (.int .i64 t) := ⟨K1.cell 0, K1.cell 1, K1.cell 2, K1.cell 3, K1.cell 4, K1.cell 5⟩
    have hs1 := R1.lt
    go_wp2_with fail
    refine wp_region_final_drew (S := (fun W => W.cell? ⟨w.heap.size, 0, none⟩ = some (.int .i64 o) ∧ W.cell? ⟨w.heap.size, 1, none⟩ = some (.int .i64 l) ∧ W.cell? ⟨w.heap.size, 2, none⟩ = some (.int .i64 m) ∧ W.cell? ⟨w.heap.size, 3, none⟩ = some (.slice A ps.length c) ∧ W.cell? ⟨w.heap.size, 4, none⟩ = some (.int .i64 b) ∧ W.cell? ⟨w.heap.size, 5, none⟩ = some (.int .i64 t))) 10 (by kernel_rfl) (by first | assumption | exact s9) (fun hHeld => ?_)
    refine wpAnyF_take (i := 1) (oi := { dst := some 41, op := Op.fieldAddr 31 (Operand.tmp 3) 1, type := 0, pos := "l2_words.go:388", after := #[], guard := none }) (v := ?_) rfl (by kernel_rfl) (by kernel_rfl) (by kernel_rfl) (by kernel_rfl) (fun _ _ _ h => h) (Or.inl ⟨by rfl, ?_⟩) (by assumption) ?_; rotate_left
    · intro W hW; (try dsimp only at hW); go_simp;  try (with_reducible rfl)
    try simp only [Act.put, List.setIfInBounds_toArray, List.set_cons_zero, List.set_cons_succ]
    refine wpAnyF_take (i := 2) (oi := { dst := some 42, op := Op.load 29 (Operand.tmp 41), type := 29, pos := "l2_words.go:388", after := #[{ on := 1, ground := Ground.data }], guard := none }) (v := ?_) rfl (by kernel_rfl) (by kernel_rfl) (by kernel_rfl) (by kernel_rfl) (fun _ _ _ h => h) (Or.inl ⟨by rfl, ?_⟩) (by assumption) ?_; rotate_left
    · intro W hW; (try dsimp only at hW); go_simp;  try (with_reducible rfl)
    try simp only [Act.put, List.setIfInBounds_toArray, List.set_cons_zero, List.set_cons_succ]
    refine wpAnyF_take (i := 4) (oi := { dst := some 44, op := Op.load 31 (Operand.tmp 3), type := 31, pos := "l2_words.go:388", after := #[], guard := none }) (v := ?_) rfl (by kernel_rfl) (by kernel_rfl) (by kernel_rfl) (by kernel_rfl) (fun _ _ _ h => h) (Or.inl ⟨by rfl, ?_⟩) (by assumption) ?_; rotate_left
    · intro W hW; (try dsimp only at hW); go_simp;  try (with_reducible rfl)
    try simp only [Act.put, List.setIfInBounds_toArray, List.set_cons_zero, List.set_cons_succ]
    refine wpAnyF_ready (rs := [0]) (by kernel_rfl) (by simp) (AllReadyF.cons (i := 0) (o := { dst := some 40, op := Op.buildSlice 29 0 #[], type := 29, pos := "l2_words.go:388", after := #[], guard := none }) rfl (fun K hK => ?_) AllReadyF.nil)
    go_simp
    have BA2 : Below w1.drew.heap.size w1.drew (w1.drew.alloc (.cells #[] 63)) := (Below.refl _ _).alloc (Nat.le_refl _) _
    have R2 := Blk.below (Blk.drew R1) BA2 R1.lt
    have K2 := Blk.below (Blk.drew K1) BA2 K1.lt
    have P2 := OwnP.below (OwnP.below P1 (Below.refl _ _).drew) BA2
    have H2 := Rd.below (Rd.drew H1) BA2
    have G2 := grown_more (only_drew G1) BA2
    clear BA2
    have O2 := own_base (own_emptyP w1.drew 63 2 w1.heap.size rfl) (by omega : w.heap.size + 2 ≤ w1.heap.size)
    have HK2 : (w1.drew.alloc (.cells #[] 63)).cell? ⟨w.heap.size, 0, none⟩ = some (.int .i64 o) ∧ (w1.drew.alloc (.cells #[] 63)).cell? ⟨w.heap.size, 1, none⟩ = some (.int .i64 l) ∧ (w1.drew.alloc (.cells #[] 63)).cell? ⟨w.heap.size, 2, none⟩ = some (.int .i64 m) ∧ (w1.drew.alloc (.cells #[] 63)).cell? ⟨w.heap.size, 3, none⟩ = some (.slice A ps.length c) ∧ (w1.drew.alloc (.cells #[] 63)).cell? ⟨w.heap.size, 4, none⟩ = some (.int .i64 b) ∧ (w1.drew.alloc (.cells #[] 63)).cell? ⟨w.heap.size, 5, none⟩ = some (.int .i64 t) := ⟨K2.cell 0, K2.cell 1, K2.cell 2, K2.cell 3, K2.cell 4, K2.cell 5⟩
    refine hK.out _ _ (by (try dsimp only); first | exact HK2) (fun hHeld => ?_)
    clear hK K
    try simp only [Act.put, List.setIfInBounds_toArray, List.set_cons_zero, List.set_cons_succ]
    refine wpAnyF_ready (rs := [3]) (by kernel_rfl) (by simp) (AllReadyF.cons (i := 3) (o := { dst := some 43, op := Op.call { callee := Callee.builtin Builtin.append, args := #[Operand.tmp 40, Operand.tmp 42], argTypes := #[29, 29] }, type := 29, pos := "l2_words.go:388", after := #[{ on := 0, ground := Ground.data }, { on := 2, ground := Ground.data }], guard := none }) rfl (fun K hK => ?_) AllReadyF.nil)
    refine wp_append_any _ _ _ _ rfl (w.heap.size + 2) 63 i0 (.agg #[.int .i64 0, .int .i64 0]) 2 16 Try.underlying29 hi0 hz0 hz1 hz2 (by rfl) (by decide) (.slice (some ⟨w1.heap.size, 0, none⟩) 0 0) 0 [] (by first | rfl | simp [Act.eval]) O2 _ A ps.length c (pvals ps) (by first | rfl | simp [Act.eval]) ((P2.pr (Nat.le_refl _)).reads) (pvals_one _) (by simp only [maxLen]; omega) (by omega) (by first | omega | (simp; done) | (simp; omega)) ?_
    intro v' w3 hown3 hg3 _
    rw [Nat.zero_add, List.nil_append] at hown3
    obtain ⟨A3, c3, rfl⟩ := own_shapeN hown3
    have R3 := blk_other R2 O2 hg3 (by decide)
    have K3 := blk_other K2 O2 hg3 (by decide)
    have H3 := H2.row O2 hg3 (by decide) (by have := H2.1; omega)
    have G3 := grown_row G2 O2 hg3 (by omega)
    have O3 := hown3
    have HK3 : w3.cell? ⟨w.heap.size, 0, none⟩ = some (.int .i64 o) ∧ w3.cell? ⟨w.heap.size, 1, none⟩ = some (.int .i64 l) ∧ w3.cell? ⟨w.heap.size, 2, none⟩ = some (.int .i64 m) ∧ w3.cell? ⟨w.heap.size, 3, none⟩ = some (.slice A ps.length c) ∧ w3.cell? ⟨w.heap.size, 4, none⟩ = some (.int .i64 b) ∧ w3.cell? ⟨w.heap.size, 5, none⟩ = some (.int .i64 t) := ⟨K3.cell 0, K3.cell 1, K3.cell 2, K3.cell 3, K3.cell 4, K3.cell 5⟩
    clear hown3 hg3
    refine hK.out _ _ (by (try dsimp only); first | exact HK3) (fun hHeld => ?_)
    clear hK K
    try simp only [Act.put, List.setIfInBounds_toArray, List.set_cons_zero, List.set_cons_succ]
    refine wpAnyF_ready (rs := [5]) (by kernel_rfl) (by simp) (AllReadyF.cons (i := 5) (o := { dst := some 45, op := Op.call { callee := Callee.value (Operand.func 88), args := #[Operand.tmp 44], argTypes := #[31] }, type := 3, pos := "l2_words.go:388", after := #[{ on := 4, ground := Ground.data }, { on := 3, ground := Ground.chain }], guard := none }) rfl (fun K hK => ?_) AllReadyF.nil)
    go_simp
    refine ((unhide CN) _).mono ?_; rintro e w4 ⟨rfl, hb4⟩
    have R4 := Blk.below R3 hb4 R3.lt
    have K4 := Blk.below K3 hb4 K3.lt
    have H4 := Rd.below H3 hb4
    have G4 := grown_more G3 hb4
    have O4 := own_below O3 hb4
    have HK4 : w4.cell? ⟨w.heap.size, 0, none⟩ = some (.int .i64 o) ∧ w4.cell? ⟨w.heap.size, 1, none⟩ = some (.int .i64 l) ∧ w4.cell? ⟨w.heap.size, 2, none⟩ = some (.int .i64 m) ∧ w4.cell? ⟨w.heap.size, 3, none⟩ = some (.slice A ps.length c) ∧ w4.cell? ⟨w.heap.size, 4, none⟩ = some (.int .i64 b) ∧ w4.cell? ⟨w.heap.size, 5, none⟩ = some (.int .i64 t) := ⟨K4.cell 0, K4.cell 1, K4.cell 2, K4.cell 3, K4.cell 4, K4.cell 5⟩
    try go_wp2_with fail
    refine hK.out _ _ (by (try dsimp only); first | exact HK4) (fun hHeld => ?_)
    clear hK K
    try simp only [Act.put, List.setIfInBounds_toArray, List.set_cons_zero, List.set_cons_succ]
    refine wpAnyF_take (i := 6) (oi := { dst := some 46, op := Op.build 63 #[(0, Operand.tmp 45), (1, Operand.const (Value.int IntKind.i64 0))], type := 63, pos := "l2_words.go:388", after := #[{ on := 5, ground := Ground.data }], guard := none }) (v := ?_) rfl (by kernel_rfl) (by kernel_rfl) (by kernel_rfl) (by kernel_rfl) (fun _ _ _ h => h) (Or.inl ⟨by rfl, ?_⟩) (by assumption) ?_; rotate_left
    · intro W hW; (try dsimp only at hW); go_simp;  try (with_reducible rfl)
    try simp only [Act.put, List.setIfInBounds_toArray, List.set_cons_zero, List.set_cons_succ]
    refine wpAnyF_ready (rs := [7]) (by kernel_rfl) (by simp) (AllReadyF.cons (i := 7) (o := { dst := some 47, op := Op.buildSlice 29 1 #[(0, Operand.tmp 46)], type := 29, pos := "l2_words.go:388", after := #[{ on := 6, ground := Ground.data }], guard := none }) rfl (fun K hK => ?_) AllReadyF.nil)
    go_simp
    have BA5 : Below w4.heap.size w4 (w4.alloc (.cells #[.int .i64 (Sx.two l + 2 + (ps.length : Int)), .int .i64 0] 63)) := (Below.refl _ _).alloc (Nat.le_refl _) _
    have R5 := Blk.below R4 BA5 R4.lt
    have K5 := Blk.below K4 BA5 K4.lt
    have H5 := Rd.below H4 BA5
    have G5 := grown_more G4 BA5
    have O5 := own_below O4 BA5
    have HK5 : (w4.alloc (.cells #[.int .i64 (Sx.two l + 2 + (ps.length : Int)), .int .i64 0] 63)).cell? ⟨w.heap.size, 0, none⟩ = some (.int .i64 o) ∧ (w4.alloc (.cells #[.int .i64 (Sx.two l + 2 + (ps.length : Int)), .int .i64 0] 63)).cell? ⟨w.heap.size, 1, none⟩ = some (.int .i64 l) ∧ (w4.alloc (.cells #[.int .i64 (Sx.two l + 2 + (ps.length : Int)), .int .i64 0] 63)).cell? ⟨w.heap.size, 2, none⟩ = some (.int .i64 m) ∧ (w4.alloc (.cells #[.int .i64 (Sx.two l + 2 + (ps.length : Int)), .int .i64 0] 63)).cell? ⟨w.heap.size, 3, none⟩ = some (.slice A ps.length c) ∧ (w4.alloc (.cells #[.int .i64 (Sx.two l + 2 + (ps.length : Int)), .int .i64 0] 63)).cell? ⟨w.heap.size, 4, none⟩ = some (.int .i64 b) ∧ (w4.alloc (.cells #[.int .i64 (Sx.two l + 2 + (ps.length : Int)), .int .i64 0] 63)).cell? ⟨w.heap.size, 5, none⟩ = some (.int .i64 t) := ⟨K5.cell 0, K5.cell 1, K5.cell 2, K5.cell 3, K5.cell 4, K5.cell 5⟩
    have PN : PR (w4.alloc (.cells #[.int .i64 (Sx.two l + 2 + (ps.length : Int)), .int .i64 0] 63)) (w4.heap.size + 1) (some ⟨w4.heap.size, 0, none⟩) [((Sx.two l + 2 + (ps.length : Int)), 0)] := PR.of_blk (Blk.new w4 63 #[.int .i64 (Sx.two l + 2 + (ps.length : Int)), .int .i64 0]) (by omega)
    have sz5 := H5.lt
    refine hK.out _ _ (by (try dsimp only); first | exact HK5) (fun hHeld => ?_)
    clear hK K
    try simp only [Act.put, List.setIfInBounds_toArray, List.set_cons_zero, List.set_cons_succ]
    refine wpAnyF_ready (rs := [8]) (by kernel_rfl) (by simp) (AllReadyF.cons (i := 8) (o := { dst := some 48, op := Op.call { callee := Callee.builtin Builtin.append, args := #[Operand.tmp 43, Operand.tmp 47], argTypes := #[29, 29] }, type := 29, pos := "l2_words.go:388", after := #[{ on := 3, ground := Ground.data }, { on := 7, ground := Ground.data }, { on := 5, ground := Ground.chain }], guard := none }) rfl (fun K hK => ?_) AllReadyF.nil)
    refine wp_append_any _ _ _ _ rfl (w.heap.size + 2) 63 i0 (.agg #[.int .i64 0, .int .i64 0]) 2 16 Try.underlying29 hi0 hz0 hz1 hz2 (by rfl) (by decide) (.slice A3 ps.length c3) ps.length (pvals ps) (by first | rfl | simp [Act.eval]) O5 _ _ 1 1 (pvals [((Sx.two l + 2 + (ps.length : Int)), 0)]) (by first | rfl | simp [Act.eval]) PN.reads (pvals_one _) (by simp only [maxLen]; omega) (by omega) (by have := O5.lt; have := R5.lt; omega) ?_
    intro v' w6 hown hgw _
    rw [← pvals_append] at hown
    obtain ⟨A4, c4, rfl⟩ := own_shapeN hown
    have hcp := own_cap hown
    have hl1 : (ps ++ [((Sx.two l + 2 + (ps.length : Int)), 0)]).length = ps.length + 1 := by simp
    have R6 := blk_other R5 O5 hgw (by decide)
    have K6 := blk_other K5 O5 hgw (by decide)
    have H6 := H5.row O5 hgw (by decide) (by have := H5.1; omega)
    have G6 := grown_row G5 O5 hgw (by omega)
    have PZ := OwnP.of_own hl1 hown
    have HK6 : w6.cell? ⟨w.heap.size, 0, none⟩ = some (.int .i64 o) ∧ w6.cell? ⟨w.heap.size, 1, none⟩ = some (.int .i64 l) ∧ w6.cell? ⟨w.heap.size, 2, none⟩ = some (.int .i64 m) ∧ w6.cell? ⟨w.heap.size, 3, none⟩ = some (.slice A ps.length c) ∧ w6.cell? ⟨w.heap.size, 4, none⟩ = some (.int .i64 b) ∧ w6.cell? ⟨w.heap.size, 5, none⟩ = some (.int .i64 t) := ⟨K6.cell 0, K6.cell 1, K6.cell 2, K6.cell 3, K6.cell 4, K6.cell 5⟩
    clear hgw hown PN
    refine hK.out _ _ (by (try dsimp only); first | exact HK6) (fun hHeld => ?_)
    clear hK K
    try simp only [Act.put, List.setIfInBounds_toArray, List.set_cons_zero, List.set_cons_succ]
    refine wpAnyF_take (i := 9) (oi := { dst := some 49, op := Op.fieldAddr 31 (Operand.tmp 3) 1, type := 0, pos := "l2_words.go:388", after := #[{ on := 0, ground := Ground.phase }, { on := 1, ground := Ground.phase }, { on := 2, ground := Ground.phase }, { on := 3, ground := Ground.phase }, { on := 4, ground := Ground.phase }, { on := 5, ground := Ground.phase }, { on := 6, ground := Ground.phase }, { on := 7, ground := Ground.phase }, { on := 8, ground := Ground.phase }], guard := none }) (v := ?_) rfl (by kernel_rfl) (by kernel_rfl) (by kernel_rfl) (by kernel_rfl) (fun _ _ _ h => h) (Or.inl ⟨by rfl, ?_⟩) (by assumption) ?_; rotate_left
    · intro W hW; (try dsimp only at hW); go_simp;  try (with_reducible rfl)
    try simp only [Act.put, List.setIfInBounds_toArray, List.set_cons_zero, List.set_cons_succ]
    refine wpAnyF_ready (rs := [10]) (by kernel_rfl) (by simp) (AllReadyF.last (o := { dst := none, op := Op.store 29 (Operand.tmp 49) (Operand.tmp 48), type := 0, pos := "l2_words.go:388", after := #[{ on := 9, ground := Ground.data }, { on := 8, ground := Ground.data }, { on := 8, ground := Ground.chain }, { on := 0, ground := Ground.phase }, { on := 1, ground := Ground.phase }, { on := 2, ground := Ground.phase }, { on := 3, ground := Ground.phase }, { on := 4, ground := Ground.phase }, { on := 5, ground := Ground.phase }, { on := 6, ground := Ground.phase }, { on := 7, ground := Ground.phase }, { on := 8, ground := Ground.phase }], guard := none }) rfl (fun K hK => ?_))
    have k3 : w6.cell? ⟨w.heap.size, 3, none⟩ = some (.slice A ps.length c) := K6.cell 3
    have fk3 := K6.frozen 3
    have K7 := K6.set_ 3 (.slice A4 (ps.length + 1) c4)
    have HG := hide (only_one w6 w.heap.size 3 (.slice A4 (ps.length + 1) c4))
    have R7 := R6.far (p := ⟨w.heap.size, 3, none⟩) (by simp) (.slice A4 (ps.length + 1) c4)
    have P7 := PZ.only HG.out K6 (by decide)
    have H7 := H6.only HG.out (by omega) (by have := H6.1; omega)
    have G7 := only_setCell G6 (p := ⟨w.heap.size, 3, none⟩) (.inr (Nat.le_refl _)) (.slice A4 (ps.length + 1) c4)
    go_simp
    clear hHeld k3 fk3
    refine hK.out _ _ ?_
    clear hK K
    try simp only [Act.put, List.setIfInBounds_toArray, List.set_cons_zero, List.set_cons_succ]
    refine wpAnyF_done (by kernel_rfl) ?_ _
    clear a0 a1 a2 a3 a4 a5
    have a0 : (w6.setCell ⟨w.heap.size, 3, none⟩ (.slice A4 (ps.length + 1) c4)).cell? ⟨w.heap.size, 0, none⟩ = some (.int .i64 o) := K7.cell 0
    have a1 : (w6.setCell ⟨w.heap.size, 3, none⟩ (.slice A4 (ps.length + 1) c4)).cell? ⟨w.heap.size, 1, none⟩ = some (.int .i64 l) := K7.cell 1
    have a2 : (w6.setCell ⟨w.heap.size, 3, none⟩ (.slice A4 (ps.length + 1) c4)).cell? ⟨w.heap.size, 2, none⟩ = some (.int .i64 m) := K7.cell 2
    have a3 : (w6.setCell ⟨w.heap.size, 3, none⟩ (.slice A4 (ps.length + 1) c4)).cell? ⟨w.heap.size, 3, none⟩ = some (.slice A4 (ps.length + 1) c4) := K7.cell 3
    have a4 : (w6.setCell ⟨w.heap.size, 3, none⟩ (.slice A4 (ps.length + 1) c4)).cell? ⟨w.heap.size, 4, none⟩ = some (.int .i64 b) := K7.cell 4
    have a5 : (w6.setCell ⟨w.heap.size, 3, none⟩ (.slice A4 (ps.length + 1) c4)).cell? ⟨w.heap.size, 5, none⟩ = some (.int .i64 t) := K7.cell 5
    have r0 : (w6.setCell ⟨w.heap.size, 3, none⟩ (.slice A4 (ps.length + 1) c4)).cell? ⟨(w.heap.size + 1), 0, none⟩ = some (.int .i64 0) := R7.cell 0
    have r1 : (w6.setCell ⟨w.heap.size, 3, none⟩ (.slice A4 (ps.length + 1) c4)).cell? ⟨(w.heap.size + 1), 1, none⟩ = some (.int .i64 0) := R7.cell 1
    have r2 : (w6.setCell ⟨w.heap.size, 3, none⟩ (.slice A4 (ps.length + 1) c4)).cell? ⟨(w.heap.size + 1), 2, none⟩ = some (.int .i64 0) := R7.cell 2
    have r3 : (w6.setCell ⟨w.heap.size, 3, none⟩ (.slice A4 (ps.length + 1) c4)).cell? ⟨(w.heap.size + 1), 3, none⟩ = some (.slice none 0 0) := R7.cell 3
    have r4 : (w6.setCell ⟨w.heap.size, 3, none⟩ (.slice A4 (ps.length + 1) c4)).cell? ⟨(w.heap.size + 1), 4, none⟩ = some (.int .i64 0) := R7.cell 4
    have r5 : (w6.setCell ⟨w.heap.size, 3, none⟩ (.slice A4 (ps.length + 1) c4)).cell? ⟨(w.heap.size + 1), 5, none⟩ = some (.int .i64 0) := R7.cell 5
    have fr0 := R7.frozen 0
    have fr1 := R7.frozen 1
    have fr2 := R7.frozen 2
    have fr3 := R7.frozen 3
    have fr4 := R7.frozen 4
    have fr5 := R7.frozen 5
    go_wp2_with fail
    have q := blk6_set R7 (.int .i64 o) (.int .i64 l) (.int .i64 m) (.slice A4 (ps.length + 1) c4) (.int .i64 b) (.int .i64 t)
    have PF := (P7.mono hbase2).only (only6 (w6.setCell ⟨w.heap.size, 3, none⟩ (.slice A4 (ps.length + 1) c4)) (w.heap.size + 1) (.int .i64 o) (.int .i64 l) (.int .i64 m) (.slice A4 (ps.length + 1) c4) (.int .i64 b) (.int .i64 t)) R7 (by decide)
    have HF := H7.only (only6 (w6.setCell ⟨w.heap.size, 3, none⟩ (.slice A4 (ps.length + 1) c4)) (w.heap.size + 1) (.int .i64 o) (.int .i64 l) (.int .i64 m) (.slice A4 (ps.length + 1) c4) (.int .i64 b) (.int .i64 t)) (by omega) (by have := H7.1; omega)
    have GF := only6r G7 (Nat.le_succ w.heap.size) (.int .i64 o) (.int .i64 l) (.int .i64 m) (.slice A4 (ps.length + 1) c4) (.int .i64 b) (.int .i64 t)
    have q0 := q.cell 0
    have q1 := q.cell 1
    have q2 := q.cell 2
    have q3 := q.cell 3
    have q4 := q.cell 4
    have q5 := q.cell 5
    exact bodyPost_ret (v := kv o l m A4 (ps.length + 1) c4 b t) (by simp [results, Try.results89, go_sem, q0, q1, q2, q3, q4, q5]) rfl (bad_mk hl1.symm (by rw [hl1]; omega) (by rw [hl1]; exact hcp) PF HF GF (by omega))
  have e3v : (v == 3) = false := by rw [beq_eq_false_iff_ne]; exact h3v
  by_cases h4v : v = 4
  · subst h4v
    have s11 : w1.drew.cell? ⟨w.heap.size, 0, none⟩ = some (.int .i64 o) ∧ w1.drew.cell? ⟨w.heap.size, 1, none⟩ = some (.int .i64 l) ∧ w1.drew.cell? ⟨w.heap.size, 2, none⟩ = some (.int .i64 m) ∧ w1.drew.cell? ⟨w.heap.size, 3, none⟩ = some (.slice A ps.length c) ∧ w1.drew.cell? ⟨w.heap.size, 4, none⟩ = some (.int .i64 b) ∧ w1.drew.cell? ⟨w.heap.size, 5, none⟩ = some (.int .i64 t) := ⟨K1.cell 0, K1.cell 1, K1.cell 2, K1.cell 3, K1.cell 4, K1.cell 5⟩
    have hs1 := R1.lt
    go_wp2_with fail
    refine wp_region_final_drew (S := (fun W => W.cell? ⟨w.heap.size, 0, none⟩ = some (.int .i64 o) ∧ W.cell? ⟨w.heap.size, 1, none⟩ = some (.int .i64 l) ∧ W.cell? ⟨w.heap.size, 2, none⟩ = some (.int .i64 m) ∧ W.cell? ⟨w.heap.size, 3, none⟩ = some (.slice A ps.length c) ∧ W.cell? ⟨w.heap.size, 4, none⟩ = some (.int .i64 b) ∧ W.cell? ⟨w.heap.size, 5, none⟩ = some (.int .i64 t))) 14 (by kernel_rfl) (by first | assumption | exact s11) (fun hHeld => ?_)
    refine wpAnyF_take (i := 1) (oi := { dst := some 53, op := Op.fieldAddr 31 (Operand.tmp 3) 1, type := 0, pos := "l2_words.go:390", after := #[], guard := none }) (v := ?_) rfl (by kernel_rfl) (by kernel_rfl) (by kernel_rfl) (by kernel_rfl) (fun _ _ _ h => h) (Or.inl ⟨by rfl, ?_⟩) (by assumption) ?_; rotate_left
    · intro W hW; (try dsimp only at hW); go_simp;  try (with_reducible rfl)
    try simp only [Act.put, List.setIfInBounds_toArray, List.set_cons_zero, List.set_cons_succ]
    refine wpAnyF_take (i := 2) (oi := { dst := some 54, op := Op.load 29 (Operand.tmp 53), type := 29, pos := "l2_words.go:390", after := #[{ on := 1, ground := Ground.data }], guard := none }) (v := ?_) rfl (by kernel_rfl) (by kernel_rfl) (by kernel_rfl) (by kernel_rfl) (fun _ _ _ h => h) (Or.inl ⟨by rfl, ?_⟩) (by assumption) ?_; rotate_left
    · intro W hW; (try dsimp only at hW); go_simp;  try (with_reducible rfl)
    try simp only [Act.put, List.setIfInBounds_toArray, List.set_cons_zero, List.set_cons_succ]
    refine wpAnyF_take (i := 4) (oi := { dst := some 56, op := Op.move (Operand.tmp 0), type := 82, pos := "l2_words.go:390", after := #[], guard := none }) (v := ?_) rfl (by kernel_rfl) (by kernel_rfl) (by kernel_rfl) (by kernel_rfl) (fun _ _ _ h => h) (Or.inl ⟨by rfl, ?_⟩) (by assumption) ?_; rotate_left
    · intro W hW; (try dsimp only at hW); go_simp;  try (with_reducible rfl)
    try simp only [Act.put, List.setIfInBounds_toArray, List.set_cons_zero, List.set_cons_succ]
    refine wpAnyF_take (i := 5) (oi := { dst := some 57, op := Op.fieldAddr 31 (Operand.tmp 3) 0, type := 0, pos := "l2_words.go:390", after := #[], guard := none }) (v := ?_) rfl (by kernel_rfl) (by kernel_rfl) (by kernel_rfl) (by kernel_rfl) (fun _ _ _ h => h) (Or.inl ⟨by rfl, ?_⟩) (by assumption) ?_; rotate_left
    · intro W hW; (try dsimp only at hW); go_simp;  try (with_reducible rfl)
    try simp only [Act.put, List.setIfInBounds_toArray, List.set_cons_zero, List.set_cons_succ]
    refine wpAnyF_take (i := 6) (oi := { dst := some 58, op := Op.load 28 (Operand.tmp 57), type := 28, pos := "l2_words.go:390", after := #[{ on := 5, ground := Ground.data }], guard := none }) (v := ?_) rfl (by kernel_rfl) (by kernel_rfl) (by kernel_rfl) (by kernel_rfl) (fun _ _ _ h => h) (Or.inl ⟨by rfl, ?_⟩) (by assumption) ?_; rotate_left
    · intro W hW; (try dsimp only at hW); go_simp;  try (with_reducible rfl)
    try simp only [Act.put, List.setIfInBounds_toArray, List.set_cons_zero, List.set_cons_succ]
    refine wpAnyF_ready (rs := [0]) (by kernel_rfl) (by simp) (AllReadyF.cons (i := 0) (o := { dst := some 52, op := Op.buildSlice 29 0 #[], type := 29, pos := "l2_words.go:390", after := #[], guard := none }) rfl (fun K hK => ?_) AllReadyF.nil)
    go_simp
    have BA2 : Below w1.drew.heap.size w1.drew (w1.drew.alloc (.cells #[] 63)) := (Below.refl _ _).alloc (Nat.le_refl _) _
    have R2 := Blk.below (Blk.drew R1) BA2 R1.lt
    have K2 := Blk.below (Blk.drew K1) BA2 K1.lt
    have P2 := OwnP.below (OwnP.below P1 (Below.refl _ _).drew) BA2
    have H2 := Rd.below (Rd.drew H1) BA2
    have G2 := grown_more (only_drew G1) BA2
    clear BA2
    have O2 := own_base (own_emptyP w1.drew 63 2 w1.heap.size rfl) (by omega : w.heap.size + 2 ≤ w1.heap.size)
    have HK2 : (w1.drew.alloc (.cells #[] 63)).cell? ⟨w.heap.size, 0, none⟩ = some (.int .i64 o) ∧ (w1.drew.alloc (.cells #[] 63)).cell? ⟨w.heap.size, 1, none⟩ = some (.int .i64 l) ∧ (w1.drew.alloc (.cells #[] 63)).cell? ⟨w.heap.size, 2, none⟩ = some (.int .i64 m) ∧ (w1.drew.alloc (.cells #[] 63)).cell? ⟨w.heap.size, 3, none⟩ = some (.slice A ps.length c) ∧ (w1.drew.alloc (.cells #[] 63)).cell? ⟨w.heap.size, 4, none⟩ = some (.int .i64 b) ∧ (w1.drew.alloc (.cells #[] 63)).cell? ⟨w.heap.size, 5, none⟩ = some (.int .i64 t) := ⟨K2.cell 0, K2.cell 1, K2.cell 2, K2.cell 3, K2.cell 4, K2.cell 5⟩
    refine hK.out _ _ (by (try dsimp only); first | exact HK2) (fun hHeld => ?_)
    clear hK K
    try simp only [Act.put, List.setIfInBounds_toArray, List.set_cons_zero, List.set_cons_succ]
    refine wpAnyF_ready (rs := [3]) (by kernel_rfl) (by simp) (AllReadyF.cons (i := 3) (o := { dst := some 55, op := Op.call { callee := Callee.builtin Builtin.append, args := #[Operand.tmp 52, Operand.tmp 54], argTypes := #[29, 29] }, type := 29, pos := "l2_words.go:390", after := #[{ on := 0, ground := Ground.data }, { on := 2, ground := Ground.data }], guard := none }) rfl (fun K hK => ?_) AllReadyF.nil)
    refine wp_append_any _ _ _ _ rfl (w.heap.size + 2) 63 i0 (.agg #[.int .i64 0, .int .i64 0]) 2 16 Try.underlying29 hi0 hz0 hz1 hz2 (by rfl) (by decide) (.slice (some ⟨w1.heap.size, 0, none⟩) 0 0) 0 [] (by first | rfl | simp [Act.eval]) O2 _ A ps.length c (pvals ps) (by first | rfl | simp [Act.eval]) ((P2.pr (Nat.le_refl _)).reads) (pvals_one _) (by simp only [maxLen]; omega) (by omega) (by first | omega | (simp; done) | (simp; omega)) ?_
    intro v' w3 hown3 hg3 _
    rw [Nat.zero_add, List.nil_append] at hown3
    obtain ⟨A3, c3, rfl⟩ := own_shapeN hown3
    have R3 := blk_other R2 O2 hg3 (by decide)
    have K3 := blk_other K2 O2 hg3 (by decide)
    have H3 := H2.row O2 hg3 (by decide) (by have := H2.1; omega)
    have G3 := grown_row G2 O2 hg3 (by omega)
    have O3 := hown3
    have HK3 : w3.cell? ⟨w.heap.size, 0, none⟩ = some (.int .i64 o) ∧ w3.cell? ⟨w.heap.size, 1, none⟩ = some (.int .i64 l) ∧ w3.cell? ⟨w.heap.size, 2, none⟩ = some (.int .i64 m) ∧ w3.cell? ⟨w.heap.size, 3, none⟩ = some (.slice A ps.length c) ∧ w3.cell? ⟨w.heap.size, 4, none⟩ = some (.int .i64 b) ∧ w3.cell? ⟨w.heap.size, 5, none⟩ = some (.int .i64 t) := ⟨K3.cell 0, K3.cell 1, K3.cell 2, K3.cell 3, K3.cell 4, K3.cell 5⟩
    clear hown3 hg3
    refine hK.out _ _ (by (try dsimp only); first | exact HK3) (fun hHeld => ?_)
    clear hK K
    try simp only [Act.put, List.setIfInBounds_toArray, List.set_cons_zero, List.set_cons_succ]
    refine wpAnyF_ready (rs := [7]) (by kernel_rfl) (by simp) (AllReadyF.cons (i := 7) (o := { dst := some 59, op := Op.call { callee := Callee.value (Operand.func 57), args := #[Operand.tmp 58], argTypes := #[28] }, type := 3, pos := "l2_words.go:390", after := #[{ on := 6, ground := Ground.data }, { on := 3, ground := Ground.chain }], guard := none }) rfl (fun K hK => ?_) AllReadyF.nil)
    go_simp
    refine ((unhide CC) _).mono ?_; rintro e w4 ⟨rfl, hb4⟩
    have R4 := Blk.below R3 hb4 R3.lt
    have K4 := Blk.below K3 hb4 K3.lt
    have H4 := Rd.below H3 hb4
    have G4 := grown_more G3 hb4
    have O4 := own_below O3 hb4
    have HK4 : w4.cell? ⟨w.heap.size, 0, none⟩ = some (.int .i64 o) ∧ w4.cell? ⟨w.heap.size, 1, none⟩ = some (.int .i64 l) ∧ w4.cell? ⟨w.heap.size, 2, none⟩ = some (.int .i64 m) ∧ w4.cell? ⟨w.heap.size, 3, none⟩ = some (.slice A ps.length c) ∧ w4.cell? ⟨w.heap.size, 4, none⟩ = some (.int .i64 b) ∧ w4.cell? ⟨w.heap.size, 5, none⟩ = some (.int .i64 t) := ⟨K4.cell 0, K4.cell 1, K4.cell 2, K4.cell 3, K4.cell 4, K4.cell 5⟩
    try go_wp2_with fail
    refine hK.out _ _ (by (try dsimp only); first | exact HK4) (fun hHeld => ?_)
    clear hK K
    try simp only [Act.put, List.setIfInBounds_toArray, List.set_cons_zero, List.set_cons_succ]
    refine wpAnyF_ready (rs := [8]) (by kernel_rfl) (by simp) (AllReadyF.cons (i := 8) (o := { dst := some 60, op := Op.buildSlice 38 2 #[(0, Operand.const (Value.int IntKind.i64 (-1))), (1, Operand.tmp 59)], type := 38, pos := "l2_words.go:390", after := #[{ on := 7, ground := Ground.data }], guard := none }) rfl (fun K hK => ?_) AllReadyF.nil)
    go_simp
    have BA : Below w4.heap.size w4 (w4.alloc (.cells #[.int .i64 (-1), .int .i64 (Sx.two l)] 3)) := (Below.refl _ _).alloc (Nat.le_refl _) _
    refine hK.out _ _ (by (try dsimp only); first | exact keepB6 hHeld BA) (fun hHeld => ?_)
    clear hK K
    try simp only [Act.put, List.setIfInBounds_toArray, List.set_cons_zero, List.set_cons_succ]
    refine wpAnyF_ready (rs := [9]) (by kernel_rfl) (by simp) (AllReadyF.cons (i := 9) (o := { dst := some 61, op := Op.call { callee := Callee.value (Operand.func 86), args := #[Operand.tmp 56, Operand.tmp 60], argTypes := #[82, 38] }, type := 3, pos := "l2_words.go:390", after := #[{ on := 4, ground := Ground.data }, { on := 8, ground := Ground.data }, { on := 7, ground := Ground.chain }], guard := none }) rfl (fun K hK => ?_) AllReadyF.nil)
    go_simp
    refine (num_list [-1, Sx.two l] 3 H4 (by omega) (by simp) (by simp) (Q := fun _ => True) (fun _ _ => trivial)).mono ?_; rintro e w5 ⟨y, rfl, _, hr5, hg5⟩
    have R5 := Blk.rd R4 H4 hg5 (by decide)
    have K5 := Blk.rd K4 H4 hg5 (by decide)
    have H5 := hr5
    have G5 := grown_trans' G4 hg5
    have O5 := own_rd O4 H4 hg5 (by decide)
    have HK5 : w5.cell? ⟨w.heap.size, 0, none⟩ = some (.int .i64 o) ∧ w5.cell? ⟨w.heap.size, 1, none⟩ = some (.int .i64 l) ∧ w5.cell? ⟨w.heap.size, 2, none⟩ = some (.int .i64 m) ∧ w5.cell? ⟨w.heap.size, 3, none⟩ = some (.slice A ps.length c) ∧ w5.cell? ⟨w.heap.size, 4, none⟩ = some (.int .i64 b) ∧ w5.cell? ⟨w.heap.size, 5, none⟩ = some (.int .i64 t) := ⟨K5.cell 0, K5.cell 1, K5.cell 2, K5.cell 3, K5.cell 4, K5.cell 5⟩
    try go_wp2_with fail
    refine hK.out _ _ (by (try dsimp only); first | exact HK5) (fun hHeld => ?_)
    clear hK K
    try simp only [Act.put, List.setIfInBounds_toArray, List.set_cons_zero, List.set_cons_succ]
    refine wpAnyF_take (i := 10) (oi := { dst := some 62, op := Op.build 63 #[(0, Operand.const (Value.int IntKind.i64 0)), (1, Operand.tmp 61)], type := 63, pos := "l2_words.go:390", after := #[{ on := 9, ground := Ground.data }], guard := none }) (v := ?_) rfl (by kernel_rfl) (by kernel_rfl) (by kernel_rfl) (by kernel_rfl) (fun _ _ _ h => h) (Or.inl ⟨by rfl, ?_⟩) (by assumption) ?_; rotate_left
    · intro W hW; (try dsimp only at hW); go_simp;  try (with_reducible rfl)
    try simp only [Act.put, List.setIfInBounds_toArray, List.set_cons_zero, List.set_cons_succ]
    refine wpAnyF_ready (rs := [11]) (by kernel_rfl) (by simp) (AllReadyF.cons (i := 11) (o := { dst := some 63, op := Op.buildSlice 29 1 #[(0, Operand.tmp 62)], type := 29, pos := "l2_words.go:390", after := #[{ on := 10, ground := Ground.data }], guard := none }) rfl (fun K hK => ?_) AllReadyF.nil)
    go_simp
    have BA6 : Below w5.heap.size w5 (w5.alloc (.cells #[.int .i64 0, .int .i64 y] 63)) := (Below.refl _ _).alloc (Nat.le_refl _) _
    have R6 := Blk.below R5 BA6 R5.lt
    have K6 := Blk.below K5 BA6 K5.lt
    have H6 := Rd.below H5 BA6
    have G6 := grown_more G5 BA6
    have O6 := own_below O5 BA6
    have HK6 : (w5.alloc (.cells #[.int .i64 0, .int .i64 y] 63)).cell? ⟨w.heap.size, 0, none⟩ = some (.int .i64 o) ∧ (w5.alloc (.cells #[.int .i64 0, .int .i64 y] 63)).cell? ⟨w.heap.size, 1, none⟩ = some (.int .i64 l) ∧ (w5.alloc (.cells #[.int .i64 0, .int .i64 y] 63)).cell? ⟨w.heap.size, 2, none⟩ = some (.int .i64 m) ∧ (w5.alloc (.cells #[.int .i64 0, .int .i64 y] 63)).cell? ⟨w.heap.size, 3, none⟩ = some (.slice A ps.length c) ∧ (w5.alloc (.cells #[.int .i64 0, .int .i64 y] 63)).cell? ⟨w.heap.size, 4, none⟩ = some (.int .i64 b) ∧ (w5.alloc (.cells #[.int .i64 0, .int .i64 y] 63)).cell? ⟨w.heap.size, 5, none⟩ = some (.int .i64 t) := ⟨K6.cell 0, K6.cell 1, K6.cell 2, K6.cell 3, K6.cell 4, K6.cell 5⟩
    have PN : PR (w5.alloc (.cells #[.int .i64 0, .int .i64 y] 63)) (w5.heap.size + 1) (some ⟨w5.heap.size, 0, none⟩) [(0, y)] := PR.of_blk (Blk.new w5 63 #[.int .i64 0, .int .i64 y]) (by omega)
    have sz6 := H6.lt
    refine hK.out _ _ (by (try dsimp only); first | exact HK6) (fun hHeld => ?_)
    clear hK K
    try simp only [Act.put, List.setIfInBounds_toArray, List.set_cons_zero, List.set_cons_succ]
    refine wpAnyF_ready (rs := [12]) (by kernel_rfl) (by simp) (AllReadyF.cons (i := 12) (o := { dst := some 64, op := Op.call { callee := Callee.builtin Builtin.append, args := #[Operand.tmp 55, Operand.tmp 63], argTypes := #[29, 29] }, type := 29, pos := "l2_words.go:390", after := #[{ on := 3, ground := Ground.data }, { on := 11, ground := Ground.data }, { on := 9, ground := Ground.chain }], guard := none }) rfl (fun K hK => ?_) AllReadyF.nil)
    refine wp_append_any _ _ _ _ rfl (w.heap.size + 2) 63 i0 (.agg #[.int .i64 0, .int .i64 0]) 2 16 Try.underlying29 hi0 hz0 hz1 hz2 (by rfl) (by decide) (.slice A3 ps.length c3) ps.length (pvals ps) (by first | rfl | simp [Act.eval]) O6 _ _ 1 1 (pvals [(0, y)]) (by first | rfl | simp [Act.eval]) PN.reads (pvals_one _) (by simp only [maxLen]; omega) (by omega) (by have := O6.lt; have := R6.lt; omega) ?_
    intro v' w7 hown hgw _
    rw [← pvals_append] at hown
    obtain ⟨A4, c4, rfl⟩ := own_shapeN hown
    have hcp := own_cap hown
    have hl1 : (ps ++ [(0, y)]).length = ps.length + 1 := by simp
    have R7 := blk_other R6 O6 hgw (by decide)
    have K7 := blk_other K6 O6 hgw (by decide)
    have H7 := H6.row O6 hgw (by decide) (by have := H6.1; omega)
    have G7 := grown_row G6 O6 hgw (by omega)
    have PZ := OwnP.of_own hl1 hown
    have HK7 : w7.cell? ⟨w.heap.size, 0, none⟩ = some (.int .i64 o) ∧ w7.cell? ⟨w.heap.size, 1, none⟩ = some (.int .i64 l) ∧ w7.cell? ⟨w.heap.size, 2, none⟩ = some (.int .i64 m) ∧ w7.cell? ⟨w.heap.size, 3, none⟩ = some (.slice A ps.length c) ∧ w7.cell? ⟨w.heap.size, 4, none⟩ = some (.int .i64 b) ∧ w7.cell? ⟨w.heap.size, 5, none⟩ = some (.int .i64 t) := ⟨K7.cell 0, K7.cell 1, K7.cell 2, K7.cell 3, K7.cell 4, K7.cell 5⟩
    clear hgw hown PN
    refine hK.out _ _ (by (try dsimp only); first | exact HK7) (fun hHeld => ?_)
    clear hK K
    try simp only [Act.put, List.setIfInBounds_toArray, List.set_cons_zero, List.set_cons_succ]
    refine wpAnyF_take (i := 13) (oi := { dst := some 65, op := Op.fieldAddr 31 (Operand.tmp 3) 1, type := 0, pos := "l2_words.go:390", after := #[{ on := 0, ground := Ground.phase }, { on := 1, ground := Ground.phase }, { on := 2, ground := Ground.phase }, { on := 3, ground := Ground.phase }, { on := 4, ground := Ground.phase }, { on := 5, ground := Ground.phase }, { on := 6, ground := Ground.phase }, { on := 7, ground := Ground.phase }, { on := 8, ground := Ground.phase }, { on := 9, ground := Ground.phase }, { on := 10, ground := Ground.phase }, { on := 11, ground := Ground.phase }, { on := 12, ground := Ground.phase }], guard := none }) (v := ?_) rfl (by kernel_rfl) (by kernel_rfl) (by kernel_rfl) (by kernel_rfl) (fun _ _ _ h => h) (Or.inl ⟨by rfl, ?_⟩) (by assumption) ?_; rotate_left
    · intro W hW; (try dsimp only at hW); go_simp;  try (with_reducible rfl)
    try simp only [Act.put, List.setIfInBounds_toArray, List.set_cons_zero, List.set_cons_succ]
    refine wpAnyF_ready (rs := [14]) (by kernel_rfl) (by simp) (AllReadyF.last (o := { dst := none, op := Op.store 29 (Operand.tmp 65) (Operand.tmp 64), type := 0, pos := "l2_words.go:390", after := #[{ on := 13, ground := Ground.data }, { on := 12, ground := Ground.data }, { on := 12, ground := Ground.chain }, { on := 0, ground := Ground.phase }, { on := 1, ground := Ground.phase }, { on := 2, ground := Ground.phase }, { on := 3, ground := Ground.phase }, { on := 4, ground := Ground.phase }, { on := 5, ground := Ground.phase }, { on := 6, ground := Ground.phase }, { on := 7, ground := Ground.phase }, { on := 8, ground := Ground.phase }, { on := 9, ground := Ground.phase }, { on := 10, ground := Ground.phase }, { on := 11, ground := Ground.phase }, { on := 12, ground := Ground.phase }], guard := none }) rfl (fun K hK => ?_))
    have k3 : w7.cell? ⟨w.heap.size, 3, none⟩ = some (.slice A ps.length c) := K7.cell 3
    have fk3 := K7.frozen 3
    have K8 := K7.set_ 3 (.slice A4 (ps.length + 1) c4)
    have HG := hide (only_one w7 w.heap.size 3 (.slice A4 (ps.length + 1) c4))
    have R8 := R7.far (p := ⟨w.heap.size, 3, none⟩) (by simp) (.slice A4 (ps.length + 1) c4)
    have P8 := PZ.only HG.out K7 (by decide)
    have H8 := H7.only HG.out (by omega) (by have := H7.1; omega)
    have G8 := only_setCell G7 (p := ⟨w.heap.size, 3, none⟩) (.inr (Nat.le_refl _)) (.slice A4 (ps.length + 1) c4)
    go_simp
    clear hHeld k3 fk3
    refine hK.out _ _ ?_
    clear hK K
    try simp only [Act.put, List.setIfInBounds_toArray, List.set_cons_zero, List.set_cons_succ]
    refine wpAnyF_done (by kernel_rfl) ?_ _
    clear a0 a1 a2 a3 a4 a5
    have a0 : (w7.setCell ⟨w.heap.size, 3, none⟩ (.slice A4 (ps.length + 1) c4)).cell? ⟨w.heap.size, 0, none⟩ = some (.int .i64 o) := K8.cell 0
    have a1 : (w7.setCell ⟨w.heap.size, 3, none⟩ (.slice A4 (ps.length + 1) c4)).cell? ⟨w.heap.size, 1, none⟩ = some (.int .i64 l) := K8.cell 1
    have a2 : (w7.setCell ⟨w.heap.size, 3, none⟩ (.slice A4 (ps.length + 1) c4)).cell? ⟨w.heap.size, 2, none⟩ = some (.int .i64 m) := K8.cell 2
    have a3 : (w7.setCell ⟨w.heap.size, 3, none⟩ (.slice A4 (ps.length + 1) c4)).cell? ⟨w.heap.size, 3, none⟩ = some (.slice A4 (ps.length + 1) c4) := K8.cell 3
    have a4 : (w7.setCell ⟨w.heap.size, 3, none⟩ (.slice A4 (ps.length + 1) c4)).cell? ⟨w.heap.size, 4, none⟩ = some (.int .i64 b) := K8.cell 4
    have a5 : (w7.setCell ⟨w.heap.size, 3, none⟩ (.slice A4 (ps.length + 1) c4)).cell? ⟨w.heap.size, 5, none⟩ = some (.int .i64 t) := K8.cell 5
    have r0 : (w7.setCell ⟨w.heap.size, 3, none⟩ (.slice A4 (ps.length + 1) c4)).cell? ⟨(w.heap.size + 1), 0, none⟩ = some (.int .i64 0) := R8.cell 0
    have r1 : (w7.setCell ⟨w.heap.size, 3, none⟩ (.slice A4 (ps.length + 1) c4)).cell? ⟨(w.heap.size + 1), 1, none⟩ = some (.int .i64 0) := R8.cell 1
    have r2 : (w7.setCell ⟨w.heap.size, 3, none⟩ (.slice A4 (ps.length + 1) c4)).cell? ⟨(w.heap.size + 1), 2, none⟩ = some (.int .i64 0) := R8.cell 2
    have r3 : (w7.setCell ⟨w.heap.size, 3, none⟩ (.slice A4 (ps.length + 1) c4)).cell? ⟨(w.heap.size + 1), 3, none⟩ = some (.slice none 0 0) := R8.cell 3
    have r4 : (w7.setCell ⟨w.heap.size, 3, none⟩ (.slice A4 (ps.length + 1) c4)).cell? ⟨(w.heap.size + 1), 4, none⟩ = some (.int .i64 0) := R8.cell 4
    have r5 : (w7.setCell ⟨w.heap.size, 3, none⟩ (.slice A4 (ps.length + 1) c4)).cell? ⟨(w.heap.size + 1), 5, none⟩ = some (.int .i64 0) := R8.cell 5
    have fr0 := R8.frozen 0
    have fr1 := R8.frozen 1
    have fr2 := R8.frozen 2
    have fr3 := R8.frozen 3
    have fr4 := R8.frozen 4
    have fr5 := R8.frozen 5
    go_wp2_with fail
    have q := blk6_set R8 (.int .i64 o) (.int .i64 l) (.int .i64 m) (.slice A4 (ps.length + 1) c4) (.int .i64 b) (.int .i64 t)
    have PF := (P8.mono hbase2).only (only6 (w7.setCell ⟨w.heap.size, 3, none⟩ (.slice A4 (ps.length + 1) c4)) (w.heap.size + 1) (.int .i64 o) (.int .i64 l) (.int .i64 m) (.slice A4 (ps.length + 1) c4) (.int .i64 b) (.int .i64 t)) R8 (by decide)
    have HF := H8.only (only6 (w7.setCell ⟨w.heap.size, 3, none⟩ (.slice A4 (ps.length + 1) c4)) (w.heap.size + 1) (.int .i64 o) (.int .i64 l) (.int .i64 m) (.slice A4 (ps.length + 1) c4) (.int .i64 b) (.int .i64 t)) (by omega) (by have := H8.1; omega)
    have GF := only6r G8 (Nat.le_succ w.heap.size) (.int .i64 o) (.int .i64 l) (.int .i64 m) (.slice A4 (ps.length + 1) c4) (.int .i64 b) (.int .i64 t)
    have q0 := q.cell 0
    have q1 := q.cell 1
    have q2 := q.cell 2
    have q3 := q.cell 3
    have q4 := q.cell 4
    have q5 := q.cell 5
    exact bodyPost_ret (v := kv o l m A4 (ps.length + 1) c4 b t) (by simp [results, Try.results89, go_sem, q0, q1, q2, q3, q4, q5]) rfl (bad_mk hl1.symm (by rw [hl1]; omega) (by rw [hl1]; exact hcp) PF HF GF (by omega))
  have e4v : (v == 4) = false := by rw [beq_eq_false_iff_ne]; exact h4v
  have a0 : w1.cell? ⟨w.heap.size, 0, none⟩ = some (.int .i64 o) := K1.cell 0
  have a1 : w1.cell? ⟨w.heap.size, 1, none⟩ = some (.int .i64 l) := K1.cell 1
  have a2 : w1.cell? ⟨w.heap.size, 2, none⟩ = some (.int .i64 m) := K1.cell 2
  have a3 : w1.cell? ⟨w.heap.size, 3, none⟩ = some (.slice A ps.length c) := K1.cell 3
  have a4 : w1.cell? ⟨w.heap.size, 4, none⟩ = some (.int .i64 b) := K1.cell 4
  have a5 : w1.cell? ⟨w.heap.size, 5, none⟩ = some (.int .i64 t) := K1.cell 5
  have r0 : w1.cell? ⟨(w.heap.size + 1), 0, none⟩ = some (.int .i64 0) := R1.cell 0
  have r1 : w1.cell? ⟨(w.heap.size + 1), 1, none⟩ = some (.int .i64 0) := R1.cell 1
  have r2 : w1.cell? ⟨(w.heap.size + 1), 2, none⟩ = some (.int .i64 0) := R1.cell 2
  have r3 : w1.cell? ⟨(w.heap.size + 1), 3, none⟩ = some (.slice none 0 0) := R1.cell 3
  have r4 : w1.cell? ⟨(w.heap.size + 1), 4, none⟩ = some (.int .i64 0) := R1.cell 4
  have r5 : w1.cell? ⟨(w.heap.size + 1), 5, none⟩ = some (.int .i64 0) := R1.cell 5
  have fr0 := R1.frozen 0
  have fr1 := R1.frozen 1
  have fr2 := R1.frozen 2
  have fr3 := R1.frozen 3
  have fr4 := R1.frozen 4
  have fr5 := R1.frozen 5
  go_wp2_with fail
  have q := blk6_set R1 (.int .i64 o) (.int .i64 l) (.int .i64 m) (.slice A ps.length c) (.int .i64 b) (.int .i64 t)
  have PF := P1.only (only6 w1 (w.heap.size + 1) (.int .i64 o) (.int .i64 l) (.int .i64 m) (.slice A ps.length c) (.int .i64 b) (.int .i64 t)) R1 (by decide)
  have HF := H1.only (only6 w1 (w.heap.size + 1) (.int .i64 o) (.int .i64 l) (.int .i64 m) (.slice A ps.length c) (.int .i64 b) (.int .i64 t)) (by omega) (by have := H1.1; omega)
  have GF := only6r G1 (Nat.le_succ w.heap.size) (.int .i64 o) (.int .i64 l) (.int .i64 m) (.slice A ps.length c) (.int .i64 b) (.int .i64 t)
  have q0 := q.cell 0
  have q1 := q.cell 1
  have q2 := q.cell 2
  have q3 := q.cell 3
  have q4 := q.cell 4
  have q5 := q.cell 5
  exact bodyPost_ret (v := kv o l m A ps.length c b t) (by simp [results, Try.results89, go_sem, q0, q1, q2, q3, q4, q5]) rfl (bad_mk rfl (by omega) hcap PF HF GF (by omega))

end Go.Proofs.Ytegfcpdkehgdpaa

/- The walks of drawn known things and codes. Conditions: a slice of at most 1048576 bytes. -/
import Derived.Test.YtegfcpdkehgdpaaDk3
namespace Go.Proofs.Ytegfcpdkehgdpaa
open Go.RowKit

/-- Something drawn, as a law calls it. -/
def DrawK (w : World) (e : Ending) (w' : World) : Prop :=
  ∃ (o l m : Int) (A : Option Addr) (c : Nat) (b t : Int) (ps : List (Int × Int)), e = .returned (kv o l m A ps.length c b t) ∧ ps.length ≤ 200 ∧ ps.length ≤ c ∧ OwnP w' w.heap.size A ps ∧ Below w.heap.size w w'
def DrawKI (w : World) (e : Ending) (w' : World) : Prop :=
  ∃ (o l m : Int) (A : Option Addr) (c : Nat) (b t : Int) (ps : List (Int × Int)) (x : Int), e = .returned (.tuple #[kv o l m A ps.length c b t, .int .i64 x]) ∧ ps.length ≤ 200 ∧ ps.length ≤ c ∧ OwnP w' w.heap.size A ps ∧ Below w.heap.size w w'
theorem drawk_mk {w w' : World} {o l m : Int} {A : Option Addr} {n c : Nat} {b t : Int} {ps : List (Int × Int)} (hn : n = ps.length) (h1 : ps.length ≤ 200) (h2 : ps.length ≤ c) (h3 : OwnP w' w.heap.size A ps) (h4 : Below w.heap.size w w') : DrawK w (.returned (kv o l m A n c b t)) w' := by
  subst hn; exact ⟨o, l, m, A, c, b, t, ps, rfl, h1, h2, h3, h4⟩
theorem drawki_mk {w w' : World} {o l m : Int} {A : Option Addr} {n c : Nat} {b t x : Int} {ps : List (Int × Int)} (hn : n = ps.length) (h1 : ps.length ≤ 200) (h2 : ps.length ≤ c) (h3 : OwnP w' w.heap.size A ps) (h4 : Below w.heap.size w w') : DrawKI w (.returned (.tuple #[kv o l m A n c b t, .int .i64 x])) w' := by
  subst hn; exact ⟨o, l, m, A, c, b, t, ps, x, rfl, h1, h2, h3, h4⟩

set_option maxRecDepth 100000 in
set_option maxHeartbeats 2000000 in
theorem rd_l2Open (B g p : Nat) (w : World) (h : Rd w B g p) (hp : p ≤ 8000000) :
    Calls Try.prog 91 #[.pointer (some ⟨g, 0, none⟩)] w (BadK B g p 108 w.heap.size w) := by
  have hlt := h.lt
  have B0 : Below w.heap.size w (w.alloc (.cells #[.int .i64 0, .int .i64 0, .int .i64 0, .slice none 0 0, .int .i64 0, .int .i64 0] 31)) := (Below.refl _ _).alloc (Nat.le_refl _) _
  have R0 := Blk.new w 31 #[.int .i64 0, .int .i64 0, .int .i64 0, .slice none 0 0, .int .i64 0, .int .i64 0]
  have H0 := h.below B0
  have G0 := below_grownBy B0 (some g)
  have hz := box_size w (.cells #[.int .i64 0, .int .i64 0, .int .i64 0, .slice none 0 0, .int .i64 0, .int .i64 0] 31)
  clear h B0
  go_enter Try.func91, Try.ntmps91
  go_wp2_with fail
  refine (rd_l2Draw B g p _ H0 (by omega)).mono ?_; rintro e w1 ⟨o, l, m, A, c, b, t, ps, rfl, hk, hl, hcp, P1, ⟨p1, hp1, hr1⟩, hg1⟩
  have R1 := R0.rd H0 hg1 (by decide)
  have H1 := hr1
  have G1 := grown_trans' G0 hg1
  have s1 := G1.size
  clear R0 H0 G0 hg1 hr1
  go_wp2_with fail
  refine (rd_l2Bad B g p1 w.heap.size o l m A c b t ps w1 H1 (by omega) (P1.mono (by omega)) s1 hk hl hcp).mono ?_; rintro e w2 ⟨o, l, m, A, c, b, t, ps, rfl, hl, hcp, P2, ⟨p2, hp2, hr2⟩, hg2⟩
  have R2 := R1.rd H1 hg2 (by decide)
  have H2 := hr2
  have G2 := grown_trans' G1 hg2
  clear R1 H1 G1 hg2 hr2 P1 hk
  have r0 : w2.cell? ⟨w.heap.size, 0, none⟩ = some (.int .i64 0) := R2.cell 0
  have r1 : w2.cell? ⟨w.heap.size, 1, none⟩ = some (.int .i64 0) := R2.cell 1
  have r2 : w2.cell? ⟨w.heap.size, 2, none⟩ = some (.int .i64 0) := R2.cell 2
  have r3 : w2.cell? ⟨w.heap.size, 3, none⟩ = some (.slice none 0 0) := R2.cell 3
  have r4 : w2.cell? ⟨w.heap.size, 4, none⟩ = some (.int .i64 0) := R2.cell 4
  have r5 : w2.cell? ⟨w.heap.size, 5, none⟩ = some (.int .i64 0) := R2.cell 5
  have fr0 := R2.frozen 0
  have fr1 := R2.frozen 1
  have fr2 := R2.frozen 2
  have fr3 := R2.frozen 3
  have fr4 := R2.frozen 4
  have fr5 := R2.frozen 5
  go_wp2_with fail
  have q := blk6_set R2 (.int .i64 o) (.int .i64 l) (.int .i64 m) (.slice A ps.length c) (.int .i64 b) (.int .i64 t)
  have PF := P2.only (only6 w2 w.heap.size (.int .i64 o) (.int .i64 l) (.int .i64 m) (.slice A ps.length c) (.int .i64 b) (.int .i64 t)) R2 (by decide)
  have HF := H2.only (only6 w2 w.heap.size (.int .i64 o) (.int .i64 l) (.int .i64 m) (.slice A ps.length c) (.int .i64 b) (.int .i64 t)) (by omega) (by have := H2.1; omega)
  have GF := only6r G2 (Nat.le_refl w.heap.size) (.int .i64 o) (.int .i64 l) (.int .i64 m) (.slice A ps.length c) (.int .i64 b) (.int .i64 t)
  have q0 := q.cell 0
  have q1 := q.cell 1
  have q2 := q.cell 2
  have q3 := q.cell 3
  have q4 := q.cell 4
  have q5 := q.cell 5
  exact bodyPost_ret (v := kv o l m A ps.length c b t) (by simp [results, Try.results91, go_sem, q0, q1, q2, q3, q4, q5]) rfl (bad_mk rfl hl hcp PF HF GF (by omega))

set_option maxRecDepth 100000 in
set_option maxHeartbeats 2000000 in
theorem draw_Greatest (A : Option Addr) (n c : Nat) (w : World) (h : Src w w.heap.size A n) (hn : n ≤ 1048576) (hc : n ≤ c) (hcm : c ≤ maxLen) :
    Calls Try.prog 48 #[.slice A n c] w (DrawK w) := by
  unfold maxLen at hcm
  have HO := hide (rd_open A n c _ (h.next ((Below.refl _ _).alloc (Nat.le_refl _) (.cells #[.int .i64 0, .int .i64 0, .int .i64 0, .slice none 0 0, .int .i64 0, .int .i64 0] 31))) hn hc hcm)
  have B0 : Below w.heap.size w (w.alloc (.cells #[.int .i64 0, .int .i64 0, .int .i64 0, .slice none 0 0, .int .i64 0, .int .i64 0] 31)) := (Below.refl _ _).alloc (Nat.le_refl _) _
  have R0 := Blk.new w 31 #[.int .i64 0, .int .i64 0, .int .i64 0, .slice none 0 0, .int .i64 0, .int .i64 0]
  have hz := box_size w (.cells #[.int .i64 0, .int .i64 0, .int .i64 0, .slice none 0 0, .int .i64 0, .int .i64 0] 31)
  clear h
  go_enter Try.func48, Try.ntmps48
  go_wp2_with fail
  refine (unhide HO).mono ?_; rintro e w1 ⟨g, rfl, H1, hb1⟩
  have hgg := H1.1
  have R1 := R0.below hb1 R0.lt
  have B1 := below_next (Nat.le_refl _) B0 hb1
  have s1 := B1.size
  clear HO R0 B0 hb1
  go_wp2_with fail
  refine (rd_l2Open _ g 0 w1 H1 (by omega)).mono ?_; rintro e w2 ⟨o, l, m, A, c, b, t, ps, rfl, hl, hcp, P2, ⟨p2, hp2, hr2⟩, hg2⟩
  have R2 := R1.rd H1 hg2 (by decide)
  have H2 := hr2
  have B2 := draw_past (Nat.le_refl _) B1 (by have := H1.1; omega) hg2
  have P2 := P2.mono s1
  clear R1 H1 B1 hr2 hg2
  have r0 : w2.cell? ⟨w.heap.size, 0, none⟩ = some (.int .i64 0) := R2.cell 0
  have r1 : w2.cell? ⟨w.heap.size, 1, none⟩ = some (.int .i64 0) := R2.cell 1
  have r2 : w2.cell? ⟨w.heap.size, 2, none⟩ = some (.int .i64 0) := R2.cell 2
  have r3 : w2.cell? ⟨w.heap.size, 3, none⟩ = some (.slice none 0 0) := R2.cell 3
  have r4 : w2.cell? ⟨w.heap.size, 4, none⟩ = some (.int .i64 0) := R2.cell 4
  have r5 : w2.cell? ⟨w.heap.size, 5, none⟩ = some (.int .i64 0) := R2.cell 5
  have fr0 := R2.frozen 0
  have fr1 := R2.frozen 1
  have fr2 := R2.frozen 2
  have fr3 := R2.frozen 3
  have fr4 := R2.frozen 4
  have fr5 := R2.frozen 5
  go_wp2_with fail
  have q := blk6_set R2 (.int .i64 o) (.int .i64 l) (.int .i64 m) (.slice A ps.length c) (.int .i64 b) (.int .i64 t)
  have PF := P2.only (only6 w2 w.heap.size (.int .i64 o) (.int .i64 l) (.int .i64 m) (.slice A ps.length c) (.int .i64 b) (.int .i64 t)) R2 (by decide)
  have BF := below_set6 (g := w.heap.size) B2 (Nat.le_refl _) (.int .i64 o) (.int .i64 l) (.int .i64 m) (.slice A ps.length c) (.int .i64 b) (.int .i64 t)
  have q0 := q.cell 0
  have q1 := q.cell 1
  have q2 := q.cell 2
  have q3 := q.cell 3
  have q4 := q.cell 4
  have q5 := q.cell 5
  exact bodyPost_ret (v := kv o l m A ps.length c b t) (by simp [results, Try.results48, go_sem, q0, q1, q2, q3, q4, q5]) rfl (drawk_mk rfl hl hcp PF BF)

set_option maxRecDepth 100000 in
set_option maxHeartbeats 2000000 in
theorem draw_Width (A : Option Addr) (n c : Nat) (w : World) (h : Src w w.heap.size A n) (hn : n ≤ 1048576) (hc : n ≤ c) (hcm : c ≤ maxLen) :
    Calls Try.prog 51 #[.slice A n c] w (DrawK w) := by
  unfold maxLen at hcm
  have HO := hide (rd_open A n c _ (h.next ((Below.refl _ _).alloc (Nat.le_refl _) (.cells #[.int .i64 0, .int .i64 0, .int .i64 0, .slice none 0 0, .int .i64 0, .int .i64 0] 31))) hn hc hcm)
  have B0 : Below w.heap.size w (w.alloc (.cells #[.int .i64 0, .int .i64 0, .int .i64 0, .slice none 0 0, .int .i64 0, .int .i64 0] 31)) := (Below.refl _ _).alloc (Nat.le_refl _) _
  have R0 := Blk.new w 31 #[.int .i64 0, .int .i64 0, .int .i64 0, .slice none 0 0, .int .i64 0, .int .i64 0]
  have hz := box_size w (.cells #[.int .i64 0, .int .i64 0, .int .i64 0, .slice none 0 0, .int .i64 0, .int .i64 0] 31)
  clear h
  go_enter Try.func51, Try.ntmps51
  go_wp2_with fail
  refine (unhide HO).mono ?_; rintro e w1 ⟨g, rfl, H1, hb1⟩
  have hgg := H1.1
  have R1 := R0.below hb1 R0.lt
  have B1 := below_next (Nat.le_refl _) B0 hb1
  have s1 := B1.size
  clear HO R0 B0 hb1
  go_wp2_with fail
  refine (rd_l2Open _ g 0 w1 H1 (by omega)).mono ?_; rintro e w2 ⟨o, l, m, A, c, b, t, ps, rfl, hl, hcp, P2, ⟨p2, hp2, hr2⟩, hg2⟩
  have R2 := R1.rd H1 hg2 (by decide)
  have H2 := hr2
  have B2 := draw_past (Nat.le_refl _) B1 (by have := H1.1; omega) hg2
  have P2 := P2.mono s1
  clear R1 H1 B1 hr2 hg2
  have r0 : w2.cell? ⟨w.heap.size, 0, none⟩ = some (.int .i64 0) := R2.cell 0
  have r1 : w2.cell? ⟨w.heap.size, 1, none⟩ = some (.int .i64 0) := R2.cell 1
  have r2 : w2.cell? ⟨w.heap.size, 2, none⟩ = some (.int .i64 0) := R2.cell 2
  have r3 : w2.cell? ⟨w.heap.size, 3, none⟩ = some (.slice none 0 0) := R2.cell 3
  have r4 : w2.cell? ⟨w.heap.size, 4, none⟩ = some (.int .i64 0) := R2.cell 4
  have r5 : w2.cell? ⟨w.heap.size, 5, none⟩ = some (.int .i64 0) := R2.cell 5
  have fr0 := R2.frozen 0
  have fr1 := R2.frozen 1
  have fr2 := R2.frozen 2
  have fr3 := R2.frozen 3
  have fr4 := R2.frozen 4
  have fr5 := R2.frozen 5
  go_wp2_with fail
  have q := blk6_set R2 (.int .i64 o) (.int .i64 l) (.int .i64 m) (.slice A ps.length c) (.int .i64 b) (.int .i64 t)
  have PF := P2.only (only6 w2 w.heap.size (.int .i64 o) (.int .i64 l) (.int .i64 m) (.slice A ps.length c) (.int .i64 b) (.int .i64 t)) R2 (by decide)
  have BF := below_set6 (g := w.heap.size) B2 (Nat.le_refl _) (.int .i64 o) (.int .i64 l) (.int .i64 m) (.slice A ps.length c) (.int .i64 b) (.int .i64 t)
  have q0 := q.cell 0
  have q1 := q.cell 1
  have q2 := q.cell 2
  have q3 := q.cell 3
  have q4 := q.cell 4
  have q5 := q.cell 5
  exact bodyPost_ret (v := kv o l m A ps.length c b t) (by simp [results, Try.results51, go_sem, q0, q1, q2, q3, q4, q5]) rfl (drawk_mk rfl hl hcp PF BF)

set_option maxRecDepth 100000 in
set_option maxHeartbeats 2000000 in
theorem draw_WordOf (A : Option Addr) (n c : Nat) (w : World) (h : Src w w.heap.size A n) (hn : n ≤ 1048576) (hc : n ≤ c) (hcm : c ≤ maxLen) :
    Calls Try.prog 44 #[.slice A n c] w (DrawKI w) := by
  unfold maxLen at hcm
  have HO := hide (rd_open A n c _ (h.next ((Below.refl _ _).alloc (Nat.le_refl _) (.cells #[.int .i64 0, .int .i64 0, .int .i64 0, .slice none 0 0, .int .i64 0, .int .i64 0] 31))) hn hc hcm)
  have B0 : Below w.heap.size w (w.alloc (.cells #[.int .i64 0, .int .i64 0, .int .i64 0, .slice none 0 0, .int .i64 0, .int .i64 0] 31)) := (Below.refl _ _).alloc (Nat.le_refl _) _
  have R0 := Blk.new w 31 #[.int .i64 0, .int .i64 0, .int .i64 0, .slice none 0 0, .int .i64 0, .int .i64 0]
  have hz := box_size w (.cells #[.int .i64 0, .int .i64 0, .int .i64 0, .slice none 0 0, .int .i64 0, .int .i64 0] 31)
  clear h
  go_enter Try.func44, Try.ntmps44
  go_wp2_with fail
  refine (unhide HO).mono ?_; rintro e w1 ⟨g, rfl, H1, hb1⟩
  have hgg := H1.1
  have R1 := R0.below hb1 R0.lt
  have B1 := below_next (Nat.le_refl _) B0 hb1
  have s1 := B1.size
  clear HO R0 B0 hb1
  go_wp2_with fail
  refine (rd_l2Draw _ g 0 w1 H1 (by omega)).mono ?_; rintro e w2 ⟨o, l, m, A, c, b, t, ps, rfl, hk, hl0, hcp, P2, ⟨p2, hp2, hr2⟩, hg2⟩
  obtain ⟨n0, n1, n2, n3, n4, n5⟩ := Sx.kOK_nums hk
  have R2 := R1.rd H1 hg2 (by decide)
  have H2 := hr2
  have B2 := draw_past (Nat.le_refl _) B1 (by have := H1.1; omega) hg2
  have P2 := P2.mono s1
  have CC := hide (fun wx => spec_l1Clear o l m wx (by omega) (by omega))
  have CE := hide (fun wx => spec_l1End o l m wx (by omega) (by omega))
  have CN := hide (fun wx => spec_l2Next o l m A ps.length c b t wx (by omega) n1 (by omega))
  have t1 := Sx.two_pos l
  have t2 := Sx.two_byte n1
  have e1 : IntKind.i64.wrap (Sx.two l + 2 + (ps.length : Int) + 1) = Sx.two l + 2 + (ps.length : Int) + 1 := IntWalk.i64_in _ (by omega)
  clear R1 H1 B1 hr2 hg2
  obtain ⟨bk, hbk⟩ : ∃ x, x = w2.heap.size := ⟨_, rfl⟩
  have hgk : g < bk := by rw [hbk]; exact H2.lt
  have hwk : w.heap.size < bk := by rw [hbk]; exact R2.lt
  have BX : Below w2.heap.size w2 (w2.alloc (.cells #[.int .i64 o, .int .i64 l, .int .i64 m, .slice A ps.length c, .int .i64 b, .int .i64 t] 31)) := (Below.refl _ _).alloc (Nat.le_refl _) _
  have K3 := Blk.new w2 31 #[.int .i64 o, .int .i64 l, .int .i64 m, .slice A ps.length c, .int .i64 b, .int .i64 t]
  have R3 := R2.below BX R2.lt
  have P3 := P2.below BX
  have H3 := H2.below BX
  have B3 := below_next (Nat.le_refl _) B2 BX
  rw [← hbk] at K3
  have a0 : (w2.alloc (.cells #[.int .i64 o, .int .i64 l, .int .i64 m, .slice A ps.length c, .int .i64 b, .int .i64 t] 31)).cell? ⟨bk, 0, none⟩ = some (.int .i64 o) := K3.cell 0
  have a1 : (w2.alloc (.cells #[.int .i64 o, .int .i64 l, .int .i64 m, .slice A ps.length c, .int .i64 b, .int .i64 t] 31)).cell? ⟨bk, 1, none⟩ = some (.int .i64 l) := K3.cell 1
  have a2 : (w2.alloc (.cells #[.int .i64 o, .int .i64 l, .int .i64 m, .slice A ps.length c, .int .i64 b, .int .i64 t] 31)).cell? ⟨bk, 2, none⟩ = some (.int .i64 m) := K3.cell 2
  have a3 : (w2.alloc (.cells #[.int .i64 o, .int .i64 l, .int .i64 m, .slice A ps.length c, .int .i64 b, .int .i64 t] 31)).cell? ⟨bk, 3, none⟩ = some (.slice A ps.length c) := K3.cell 3
  have a4 : (w2.alloc (.cells #[.int .i64 o, .int .i64 l, .int .i64 m, .slice A ps.length c, .int .i64 b, .int .i64 t] 31)).cell? ⟨bk, 4, none⟩ = some (.int .i64 b) := K3.cell 4
  have a5 : (w2.alloc (.cells #[.int .i64 o, .int .i64 l, .int .i64 m, .slice A ps.length c, .int .i64 b, .int .i64 t] 31)).cell? ⟨bk, 5, none⟩ = some (.int .i64 t) := K3.cell 5
  clear R2 P2 H2 B2 BX
  rw [hbk] at a0 a1 a2 a3 a4 a5
  go_wp2_with fail
  refine (rd_l2Pick _ g p2 o l m A ps.length c b t _ H3 (by omega) n0 n1 (by omega) n3 (by omega)).mono ?_; rintro e w4 ⟨x, rfl, _, ⟨p4, hp4, hr4⟩, hg4⟩
  have R4 := R3.rd H3 hg4 (by decide)
  have K4 := K3.rd H3 hg4 (by decide)
  have P4 := P3.rd H3 hg4
  have H4 := hr4
  have B4 := draw_past (Nat.le_refl _) B3 (by have := H3.1; omega) hg4
  clear R3 K3 P3 H3 B3 hr4 hg4 a0 a1 a2 a3 a4 a5
  rw [← hbk]
  clear hbk
  go_wp2_with fail
  refine (rd_pick _ g p4 8 _ H4 (by omega) (by omega) (by omega)).mono ?_; rintro e w5 ⟨u, rfl, _, _, _, hr5, hg5⟩
  have R5 := R4.rd H4 hg5 (by decide)
  have K5 := K4.rd H4 hg5 (by decide)
  have P5 := P4.rd H4 hg5
  have H5 := hr5
  have B5 := draw_past (Nat.le_refl _) B4 (by have := H4.1; omega) hg5
  clear R4 K4 P4 H4 B4 hr5 hg5
  by_cases hu : u = 0
  · have eu : (u == 0) = true := by rw [hu]; rfl
    have s5 : w5.drew.cell? ⟨bk, 0, none⟩ = some (.int .i64 o) ∧ w5.drew.cell? ⟨bk, 1, none⟩ = some (.int .i64 l) ∧ w5.drew.cell? ⟨bk, 2, none⟩ = some (.int .i64 m) ∧ w5.drew.cell? ⟨bk, 3, none⟩ = some (.slice A ps.length c) ∧ w5.drew.cell? ⟨bk, 4, none⟩ = some (.int .i64 b) ∧ w5.drew.cell? ⟨bk, 5, none⟩ = some (.int .i64 t) := ⟨K5.cell 0, K5.cell 1, K5.cell 2, K5.cell 3, K5.cell 4, K5.cell 5⟩
    go_wp2_with fail
    refine wp_region_held_drew (S := (fun W => W.cell? ⟨bk, 0, none⟩ = some (.int .i64 o) ∧ W.cell? ⟨bk, 1, none⟩ = some (.int .i64 l) ∧ W.cell? ⟨bk, 2, none⟩ = some (.int .i64 m) ∧ W.cell? ⟨bk, 3, none⟩ = some (.slice A ps.length c) ∧ W.cell? ⟨bk, 4, none⟩ = some (.int .i64 b) ∧ W.cell? ⟨bk, 5, none⟩ = some (.int .i64 t))) (by kernel_rfl) (by first | assumption | exact s5) (fun hHeld => ?_)
    refine wpAnyH_take (i := 0) (oi := { dst := some 17, op := Op.move (Operand.tmp 4), type := 82, pos := "l2_words.go:439", after := #[], guard := none }) (v := ?_) rfl (by kernel_rfl) (by kernel_rfl) (by kernel_rfl) (fun _ _ _ h => h) (Or.inl ⟨by rfl, ?_⟩) (by assumption) ?_; rotate_left
    · intro W hW; (try dsimp only at hW); go_simp;  try (with_reducible rfl)
    try simp only [Act.put, List.setIfInBounds_toArray, List.set_cons_zero, List.set_cons_succ]
    refine wpAnyH_take (i := 1) (oi := { dst := some 18, op := Op.fieldAddr 31 (Operand.tmp 5) 0, type := 0, pos := "l2_words.go:439", after := #[], guard := none }) (v := ?_) rfl (by kernel_rfl) (by kernel_rfl) (by kernel_rfl) (fun _ _ _ h => h) (Or.inl ⟨by rfl, ?_⟩) (by assumption) ?_; rotate_left
    · intro W hW; (try dsimp only at hW); go_simp;  try (with_reducible rfl)
    try simp only [Act.put, List.setIfInBounds_toArray, List.set_cons_zero, List.set_cons_succ]
    refine wpAnyH_take (i := 2) (oi := { dst := some 19, op := Op.load 28 (Operand.tmp 18), type := 28, pos := "l2_words.go:439", after := #[{ on := 1, ground := Ground.data }], guard := none }) (v := ?_) rfl (by kernel_rfl) (by kernel_rfl) (by kernel_rfl) (fun _ _ _ h => h) (Or.inl ⟨by rfl, ?_⟩) (by assumption) ?_; rotate_left
    · intro W hW; (try dsimp only at hW); go_simp;  try (with_reducible rfl)
    try simp only [Act.put, List.setIfInBounds_toArray, List.set_cons_zero, List.set_cons_succ]
    refine wpAnyH_take (i := 4) (oi := { dst := some 21, op := Op.fieldAddr 31 (Operand.tmp 5) 0, type := 0, pos := "l2_words.go:439", after := #[], guard := none }) (v := ?_) rfl (by kernel_rfl) (by kernel_rfl) (by kernel_rfl) (fun _ _ _ h => h) (Or.inl ⟨by rfl, ?_⟩) (by assumption) ?_; rotate_left
    · intro W hW; (try dsimp only at hW); go_simp;  try (with_reducible rfl)
    try simp only [Act.put, List.setIfInBounds_toArray, List.set_cons_zero, List.set_cons_succ]
    refine wpAnyH_take (i := 5) (oi := { dst := some 22, op := Op.load 28 (Operand.tmp 21), type := 28, pos := "l2_words.go:439", after := #[{ on := 4, ground := Ground.data }], guard := none }) (v := ?_) rfl (by kernel_rfl) (by kernel_rfl) (by kernel_rfl) (fun _ _ _ h => h) (Or.inl ⟨by rfl, ?_⟩) (by assumption) ?_; rotate_left
    · intro W hW; (try dsimp only at hW); go_simp;  try (with_reducible rfl)
    try simp only [Act.put, List.setIfInBounds_toArray, List.set_cons_zero, List.set_cons_succ]
    refine wpAnyH_take (i := 7) (oi := { dst := some 24, op := Op.load 31 (Operand.tmp 5), type := 31, pos := "l2_words.go:439", after := #[], guard := none }) (v := ?_) rfl (by kernel_rfl) (by kernel_rfl) (by kernel_rfl) (fun _ _ _ h => h) (Or.inl ⟨by rfl, ?_⟩) (by assumption) ?_; rotate_left
    · intro W hW; (try dsimp only at hW); go_simp;  try (with_reducible rfl)
    try simp only [Act.put, List.setIfInBounds_toArray, List.set_cons_zero, List.set_cons_succ]
    refine wpAnyH_take (i := 9) (oi := { dst := some 26, op := Op.load 31 (Operand.tmp 5), type := 31, pos := "l2_words.go:439", after := #[], guard := none }) (v := ?_) rfl (by kernel_rfl) (by kernel_rfl) (by kernel_rfl) (fun _ _ _ h => h) (Or.inl ⟨by rfl, ?_⟩) (by assumption) ?_; rotate_left
    · intro W hW; (try dsimp only at hW); go_simp;  try (with_reducible rfl)
    try simp only [Act.put, List.setIfInBounds_toArray, List.set_cons_zero, List.set_cons_succ]
    refine wpAnyH_ready (rs := [3]) (by kernel_rfl) (by simp) (AllReadyH.cons (i := 3) (o := { dst := some 20, op := Op.call { callee := Callee.value (Operand.func 57), args := #[Operand.tmp 19], argTypes := #[28] }, type := 3, pos := "l2_words.go:439", after := #[{ on := 2, ground := Ground.data }], guard := none }) rfl (fun K hK => ?_) AllReadyH.nil)
    go_simp
    refine ((unhide CC) _).mono ?_; rintro e w6 ⟨rfl, hb6⟩
    have R6 := (Blk.drew R5).below hb6 R5.lt
    have K6 := (Blk.drew K5).below hb6 K5.lt
    have P6 := (OwnP.below P5 (Below.refl _ _).drew).below hb6
    have H6 := (Rd.drew H5).below hb6
    have B6 := below_next (Nat.le_refl _) B5.drew hb6
    have HK6 : w6.cell? ⟨bk, 0, none⟩ = some (.int .i64 o) ∧ w6.cell? ⟨bk, 1, none⟩ = some (.int .i64 l) ∧ w6.cell? ⟨bk, 2, none⟩ = some (.int .i64 m) ∧ w6.cell? ⟨bk, 3, none⟩ = some (.slice A ps.length c) ∧ w6.cell? ⟨bk, 4, none⟩ = some (.int .i64 b) ∧ w6.cell? ⟨bk, 5, none⟩ = some (.int .i64 t) := ⟨K6.cell 0, K6.cell 1, K6.cell 2, K6.cell 3, K6.cell 4, K6.cell 5⟩
    try go_wp2_with fail
    refine hK.out _ _ (by (try dsimp only); first | exact HK6) (fun hHeld => ?_)
    clear hK K
    try simp only [Act.put, List.setIfInBounds_toArray, List.set_cons_zero, List.set_cons_succ]
    refine wpAnyH_ready (rs := [6]) (by kernel_rfl) (by simp) (AllReadyH.cons (i := 6) (o := { dst := some 23, op := Op.call { callee := Callee.value (Operand.func 87), args := #[Operand.tmp 22], argTypes := #[28] }, type := 3, pos := "l2_words.go:439", after := #[{ on := 5, ground := Ground.data }, { on := 3, ground := Ground.chain }], guard := none }) rfl (fun K hK => ?_) AllReadyH.nil)
    go_simp
    refine ((unhide CE) _).mono ?_; rintro e w7 ⟨rfl, hb7⟩
    have R7 := R6.below hb7 R6.lt
    have K7 := K6.below hb7 K6.lt
    have P7 := P6.below hb7
    have H7 := H6.below hb7
    have B7 := below_next (Nat.le_refl _) B6 hb7
    have HK7 : w7.cell? ⟨bk, 0, none⟩ = some (.int .i64 o) ∧ w7.cell? ⟨bk, 1, none⟩ = some (.int .i64 l) ∧ w7.cell? ⟨bk, 2, none⟩ = some (.int .i64 m) ∧ w7.cell? ⟨bk, 3, none⟩ = some (.slice A ps.length c) ∧ w7.cell? ⟨bk, 4, none⟩ = some (.int .i64 b) ∧ w7.cell? ⟨bk, 5, none⟩ = some (.int .i64 t) := ⟨K7.cell 0, K7.cell 1, K7.cell 2, K7.cell 3, K7.cell 4, K7.cell 5⟩
    try go_wp2_with fail
    refine hK.out _ _ (by (try dsimp only); first | exact HK7) (fun hHeld => ?_)
    clear hK K
    try simp only [Act.put, List.setIfInBounds_toArray, List.set_cons_zero, List.set_cons_succ]
    refine wpAnyH_ready (rs := [8]) (by kernel_rfl) (by simp) (AllReadyH.cons (i := 8) (o := { dst := some 25, op := Op.call { callee := Callee.value (Operand.func 88), args := #[Operand.tmp 24], argTypes := #[31] }, type := 3, pos := "l2_words.go:439", after := #[{ on := 7, ground := Ground.data }, { on := 6, ground := Ground.chain }], guard := none }) rfl (fun K hK => ?_) AllReadyH.nil)
    go_simp
    refine ((unhide CN) _).mono ?_; rintro e w8 ⟨rfl, hb8⟩
    have R8 := R7.below hb8 R7.lt
    have K8 := K7.below hb8 K7.lt
    have P8 := P7.below hb8
    have H8 := H7.below hb8
    have B8 := below_next (Nat.le_refl _) B7 hb8
    have HK8 : w8.cell? ⟨bk, 0, none⟩ = some (.int .i64 o) ∧ w8.cell? ⟨bk, 1, none⟩ = some (.int .i64 l) ∧ w8.cell? ⟨bk, 2, none⟩ = some (.int .i64 m) ∧ w8.cell? ⟨bk, 3, none⟩ = some (.slice A ps.length c) ∧ w8.cell? ⟨bk, 4, none⟩ = some (.int .i64 b) ∧ w8.cell? ⟨bk, 5, none⟩ = some (.int .i64 t) := ⟨K8.cell 0, K8.cell 1, K8.cell 2, K8.cell 3, K8.cell 4, K8.cell 5⟩
    try go_wp2_with fail
    refine hK.out _ _ (by (try dsimp only); first | exact HK8) (fun hHeld => ?_)
    clear hK K
    try simp only [Act.put, List.setIfInBounds_toArray, List.set_cons_zero, List.set_cons_succ]
    refine wpAnyH_ready (rs := [10]) (by kernel_rfl) (by simp) (AllReadyH.cons (i := 10) (o := { dst := some 27, op := Op.call { callee := Callee.value (Operand.func 88), args := #[Operand.tmp 26], argTypes := #[31] }, type := 3, pos := "l2_words.go:439", after := #[{ on := 9, ground := Ground.data }, { on := 8, ground := Ground.chain }], guard := none }) rfl (fun K hK => ?_) AllReadyH.nil)
    go_simp
    refine ((unhide CN) _).mono ?_; rintro e w9 ⟨rfl, hb9⟩
    have R9 := R8.below hb9 R8.lt
    have K9 := K8.below hb9 K8.lt
    have P9 := P8.below hb9
    have H9 := H8.below hb9
    have B9 := below_next (Nat.le_refl _) B8 hb9
    have HK9 : w9.cell? ⟨bk, 0, none⟩ = some (.int .i64 o) ∧ w9.cell? ⟨bk, 1, none⟩ = some (.int .i64 l) ∧ w9.cell? ⟨bk, 2, none⟩ = some (.int .i64 m) ∧ w9.cell? ⟨bk, 3, none⟩ = some (.slice A ps.length c) ∧ w9.cell? ⟨bk, 4, none⟩ = some (.int .i64 b) ∧ w9.cell? ⟨bk, 5, none⟩ = some (.int .i64 t) := ⟨K9.cell 0, K9.cell 1, K9.cell 2, K9.cell 3, K9.cell 4, K9.cell 5⟩
    try go_wp2_with fail
    refine hK.out _ _ (by (try dsimp only); first | exact HK9) (fun hHeld => ?_)
    clear hK K
    try simp only [Act.put, List.setIfInBounds_toArray, List.set_cons_zero, List.set_cons_succ]
    refine wpAnyH_take (i := 11) (oi := { dst := some 28, op := Op.binOp BinOp.add 3 (Operand.tmp 27) (Operand.const (Value.int IntKind.i64 1)) 3, type := 3, pos := "l2_words.go:439", after := #[{ on := 10, ground := Ground.data }], guard := none }) (v := ?_) rfl (by kernel_rfl) (by kernel_rfl) (by kernel_rfl) (fun _ _ _ h => h) (Or.inl ⟨by rfl, ?_⟩) (by assumption) ?_; rotate_left
    · intro W hW; (try dsimp only at hW); go_simp;  try (with_reducible rfl)
    try simp only [Act.put, List.setIfInBounds_toArray, List.set_cons_zero, List.set_cons_succ]
    refine wpAnyH_ready (rs := [12]) (by kernel_rfl) (by simp) (AllReadyH.cons (i := 12) (o := { dst := some 29, op := Op.buildSlice 38 6 #[(0, Operand.const (Value.int IntKind.i64 (-1))), (1, Operand.tmp 20), (2, Operand.tmp 23), (3, Operand.tmp 25), (4, Operand.tmp 28), (5, Operand.const (Value.int IntKind.i64 9223372036854775807))], type := 38, pos := "l2_words.go:439", after := #[{ on := 3, ground := Ground.data }, { on := 6, ground := Ground.data }, { on := 8, ground := Ground.data }, { on := 11, ground := Ground.data }], guard := none }) rfl (fun K hK => ?_) AllReadyH.nil)
    go_simp
    have BA : Below w9.heap.size w9 (w9.alloc (.cells #[.int .i64 (-1), .int .i64 (Sx.two l), .int .i64 (Sx.two l + 1), .int .i64 (Sx.two l + 2 + (ps.length : Int)), .int .i64 (Sx.two l + 2 + (ps.length : Int) + 1), .int .i64 9223372036854775807] 3)) := (Below.refl _ _).alloc (Nat.le_refl _) _
    refine hK.out _ _ (by (try dsimp only); first | exact keepB6 hHeld BA) (fun hHeld => ?_)
    clear hK K
    try simp only [Act.put, List.setIfInBounds_toArray, List.set_cons_zero, List.set_cons_succ]
    refine wpAnyH_ready (rs := [13]) (by kernel_rfl) (by simp) (AllReadyH.cons (i := 13) (o := { dst := some 30, op := Op.call { callee := Callee.value (Operand.func 86), args := #[Operand.tmp 17, Operand.tmp 29], argTypes := #[82, 38] }, type := 3, pos := "l2_words.go:439", after := #[{ on := 0, ground := Ground.data }, { on := 12, ground := Ground.data }, { on := 10, ground := Ground.chain }], guard := none }) rfl (fun K hK => ?_) AllReadyH.nil)
    go_simp
    refine (num_list [-1, Sx.two l, Sx.two l + 1, Sx.two l + 2 + (ps.length : Int), Sx.two l + 2 + (ps.length : Int) + 1, 9223372036854775807] 3 H9 (by omega) (by simp) (by simp) (Q := fun _ => True) (fun _ _ => trivial)).mono ?_; rintro e w10 ⟨y, rfl, _, hr10, hg10⟩
    have R10 := R9.rd H9 hg10 (by decide)
    have K10 := K9.rd H9 hg10 (by decide)
    have P10 := P9.rd H9 hg10
    have H10 := hr10
    have B10 := draw_past (Nat.le_refl _) B9 (by have := H9.1; omega) hg10
    have HK10 : w10.cell? ⟨bk, 0, none⟩ = some (.int .i64 o) ∧ w10.cell? ⟨bk, 1, none⟩ = some (.int .i64 l) ∧ w10.cell? ⟨bk, 2, none⟩ = some (.int .i64 m) ∧ w10.cell? ⟨bk, 3, none⟩ = some (.slice A ps.length c) ∧ w10.cell? ⟨bk, 4, none⟩ = some (.int .i64 b) ∧ w10.cell? ⟨bk, 5, none⟩ = some (.int .i64 t) := ⟨K10.cell 0, K10.cell 1, K10.cell 2, K10.cell 3, K10.cell 4, K10.cell 5⟩
    try go_wp2_with fail
    refine hK.out _ _ (by (try dsimp only); first | exact HK10) (fun hHeld => ?_)
    clear hK K
    try simp only [Act.put, List.setIfInBounds_toArray, List.set_cons_zero, List.set_cons_succ]
    refine wpAnyH_take (i := 14) (oi := { dst := some 6, op := Op.assign (Operand.tmp 30), type := 3, pos := "l2_words.go:439", after := #[{ on := 13, ground := Ground.data }, { on := 13, ground := Ground.chain }, { on := 0, ground := Ground.phase }, { on := 1, ground := Ground.phase }, { on := 2, ground := Ground.phase }, { on := 3, ground := Ground.phase }, { on := 4, ground := Ground.phase }, { on := 5, ground := Ground.phase }, { on := 6, ground := Ground.phase }, { on := 7, ground := Ground.phase }, { on := 8, ground := Ground.phase }, { on := 9, ground := Ground.phase }, { on := 10, ground := Ground.phase }, { on := 11, ground := Ground.phase }, { on := 12, ground := Ground.phase }, { on := 13, ground := Ground.phase }], guard := none }) (v := ?_) rfl (by kernel_rfl) (by kernel_rfl) (by kernel_rfl) (fun _ _ _ h => h) (Or.inl ⟨by rfl, ?_⟩) (by assumption) ?_; rotate_left
    · intro W hW; (try dsimp only at hW); go_simp;  try (with_reducible rfl)
    try simp only [Act.put, List.setIfInBounds_toArray, List.set_cons_zero, List.set_cons_succ]
    refine wpAnyH_done (by kernel_rfl) ?_ _
    clear hHeld s5
    have a0 : w10.cell? ⟨bk, 0, none⟩ = some (.int .i64 o) := K10.cell 0
    have a1 : w10.cell? ⟨bk, 1, none⟩ = some (.int .i64 l) := K10.cell 1
    have a2 : w10.cell? ⟨bk, 2, none⟩ = some (.int .i64 m) := K10.cell 2
    have a3 : w10.cell? ⟨bk, 3, none⟩ = some (.slice A ps.length c) := K10.cell 3
    have a4 : w10.cell? ⟨bk, 4, none⟩ = some (.int .i64 b) := K10.cell 4
    have a5 : w10.cell? ⟨bk, 5, none⟩ = some (.int .i64 t) := K10.cell 5
    go_wp2_with fail
    refine (rd_l2Bad _ g _ w.heap.size o l m A c b t ps w10 H10 (by omega) P10 B10.size hk hl0 hcp).mono ?_; rintro e w11 ⟨o, l, m, A, c, b, t, ps, rfl, hl, hcp, P11, ⟨p11, hp11, hr11⟩, hg11⟩
    have R11 := R10.rd H10 hg11 (by decide)
    have H11 := hr11
    have B11 := draw_past (Nat.le_refl _) B10 (by have := H10.1; omega) hg11
    clear R10 K10 P10 H10 B10 hr11 hg11 a0 a1 a2 a3 a4 a5
    have r0 : w11.cell? ⟨w.heap.size, 0, none⟩ = some (.int .i64 0) := R11.cell 0
    have r1 : w11.cell? ⟨w.heap.size, 1, none⟩ = some (.int .i64 0) := R11.cell 1
    have r2 : w11.cell? ⟨w.heap.size, 2, none⟩ = some (.int .i64 0) := R11.cell 2
    have r3 : w11.cell? ⟨w.heap.size, 3, none⟩ = some (.slice none 0 0) := R11.cell 3
    have r4 : w11.cell? ⟨w.heap.size, 4, none⟩ = some (.int .i64 0) := R11.cell 4
    have r5 : w11.cell? ⟨w.heap.size, 5, none⟩ = some (.int .i64 0) := R11.cell 5
    have fr0 := R11.frozen 0
    have fr1 := R11.frozen 1
    have fr2 := R11.frozen 2
    have fr3 := R11.frozen 3
    have fr4 := R11.frozen 4
    have fr5 := R11.frozen 5
    go_wp2_with fail
    have q := blk6_set R11 (.int .i64 o) (.int .i64 l) (.int .i64 m) (.slice A ps.length c) (.int .i64 b) (.int .i64 t)
    have PF := P11.only (only6 w11 w.heap.size (.int .i64 o) (.int .i64 l) (.int .i64 m) (.slice A ps.length c) (.int .i64 b) (.int .i64 t)) R11 (by decide)
    have BF := below_set6 (g := w.heap.size) B11 (Nat.le_refl _) (.int .i64 o) (.int .i64 l) (.int .i64 m) (.slice A ps.length c) (.int .i64 b) (.int .i64 t)
    have q0 := q.cell 0
    have q1 := q.cell 1
    have q2 := q.cell 2
    have q3 := q.cell 3
    have q4 := q.cell 4
    have q5 := q.cell 5
    exact bodyPost_ret (v := .tuple #[kv o l m A ps.length c b t, .int .i64 y]) (by simp [results, Try.results44, go_sem, q0, q1, q2, q3, q4, q5]) rfl (drawki_mk rfl hl hcp PF BF)
  · have eu : (u == 0) = false := by rw [beq_eq_false_iff_ne]; exact hu
    have a0 : w5.cell? ⟨bk, 0, none⟩ = some (.int .i64 o) := K5.cell 0
    have a1 : w5.cell? ⟨bk, 1, none⟩ = some (.int .i64 l) := K5.cell 1
    have a2 : w5.cell? ⟨bk, 2, none⟩ = some (.int .i64 m) := K5.cell 2
    have a3 : w5.cell? ⟨bk, 3, none⟩ = some (.slice A ps.length c) := K5.cell 3
    have a4 : w5.cell? ⟨bk, 4, none⟩ = some (.int .i64 b) := K5.cell 4
    have a5 : w5.cell? ⟨bk, 5, none⟩ = some (.int .i64 t) := K5.cell 5
    go_wp2_with fail
    refine (rd_l2Bad _ g _ w.heap.size o l m A c b t ps w5 H5 (by omega) P5 B5.size hk hl0 hcp).mono ?_; rintro e w11 ⟨o, l, m, A, c, b, t, ps, rfl, hl, hcp, P11, ⟨p11, hp11, hr11⟩, hg11⟩
    have R11 := R5.rd H5 hg11 (by decide)
    have H11 := hr11
    have B11 := draw_past (Nat.le_refl _) B5 (by have := H5.1; omega) hg11
    clear R5 K5 P5 H5 B5 hr11 hg11 a0 a1 a2 a3 a4 a5
    have r0 : w11.cell? ⟨w.heap.size, 0, none⟩ = some (.int .i64 0) := R11.cell 0
    have r1 : w11.cell? ⟨w.heap.size, 1, none⟩ = some (.int .i64 0) := R11.cell 1
    have r2 : w11.cell? ⟨w.heap.size, 2, none⟩ = some (.int .i64 0) := R11.cell 2
    have r3 : w11.cell? ⟨w.heap.size, 3, none⟩ = some (.slice none 0 0) := R11.cell 3
    have r4 : w11.cell? ⟨w.heap.size, 4, none⟩ = some (.int .i64 0) := R11.cell 4
    have r5 : w11.cell? ⟨w.heap.size, 5, none⟩ = some (.int .i64 0) := R11.cell 5
    have fr0 := R11.frozen 0
    have fr1 := R11.frozen 1
    have fr2 := R11.frozen 2
    have fr3 := R11.frozen 3
    have fr4 := R11.frozen 4
    have fr5 := R11.frozen 5
    go_wp2_with fail
    have q := blk6_set R11 (.int .i64 o) (.int .i64 l) (.int .i64 m) (.slice A ps.length c) (.int .i64 b) (.int .i64 t)
    have PF := P11.only (only6 w11 w.heap.size (.int .i64 o) (.int .i64 l) (.int .i64 m) (.slice A ps.length c) (.int .i64 b) (.int .i64 t)) R11 (by decide)
    have BF := below_set6 (g := w.heap.size) B11 (Nat.le_refl _) (.int .i64 o) (.int .i64 l) (.int .i64 m) (.slice A ps.length c) (.int .i64 b) (.int .i64 t)
    have q0 := q.cell 0
    have q1 := q.cell 1
    have q2 := q.cell 2
    have q3 := q.cell 3
    have q4 := q.cell 4
    have q5 := q.cell 5
    exact bodyPost_ret (v := .tuple #[kv o l m A ps.length c b t, .int .i64 x]) (by simp [results, Try.results44, go_sem, q0, q1, q2, q3, q4, q5]) rfl (drawki_mk rfl hl hcp PF BF)

set_option maxRecDepth 100000 in
set_option maxHeartbeats 2000000 in
theorem draw_After (A : Option Addr) (n c : Nat) (w : World) (h : Src w w.heap.size A n) (hn : n ≤ 1048576) (hc : n ≤ c) (hcm : c ≤ maxLen) :
    Calls Try.prog 54 #[.slice A n c] w (DrawKI w) := by
  have HD := hide (draw_WordOf A n c (w.alloc (.cells #[.int .i64 0, .int .i64 0, .int .i64 0, .slice none 0 0, .int .i64 0, .int .i64 0] 31)) (h.next ((Below.refl _ _).alloc (Nat.le_refl _) (.cells #[.int .i64 0, .int .i64 0, .int .i64 0, .slice none 0 0, .int .i64 0, .int .i64 0] 31))) hn hc hcm)
  have B0 : Below w.heap.size w (w.alloc (.cells #[.int .i64 0, .int .i64 0, .int .i64 0, .slice none 0 0, .int .i64 0, .int .i64 0] 31)) := (Below.refl _ _).alloc (Nat.le_refl _) _
  have R0 := Blk.new w 31 #[.int .i64 0, .int .i64 0, .int .i64 0, .slice none 0 0, .int .i64 0, .int .i64 0]
  have s0 := B0.size
  unfold maxLen at hcm
  clear h
  go_enter Try.func54, Try.ntmps54
  go_wp2_with fail
  refine (unhide HD).mono ?_; rintro e w1 ⟨o, l, m, A3, c3, b, t, ps, x, rfl, hl, hcp, P1, hb1⟩
  have R1 := R0.below hb1 R0.lt
  have B1 := below_next (Nat.le_refl _) B0 hb1
  have P1 := P1.mono s0
  clear HD R0 B0 hb1
  obtain ⟨bk, hbk⟩ : ∃ x, x = w1.heap.size := ⟨_, rfl⟩
  have hwk : w.heap.size < bk := by rw [hbk]; exact R1.lt
  have BX : Below w1.heap.size w1 (w1.alloc (.cells #[.int .i64 o, .int .i64 l, .int .i64 m, .slice A3 ps.length c3, .int .i64 b, .int .i64 t] 31)) := (Below.refl _ _).alloc (Nat.le_refl _) _
  have K3 := Blk.new w1 31 #[.int .i64 o, .int .i64 l, .int .i64 m, .slice A3 ps.length c3, .int .i64 b, .int .i64 t]
  have R3 := R1.below BX R1.lt
  have P3 := P1.below BX
  have B3 := below_next (Nat.le_refl _) B1 BX
  rw [← hbk] at K3
  clear R1 P1 B1 BX
  have e6 : ((n : Int)).tmod 6 = (n : Int) % 6 := Int.tmod_eq_emod_of_nonneg (by omega)
  have e7 : IntKind.i64.wrap ((n : Int) % 6) = (n : Int) % 6 := IntWalk.i64_in _ (by omega)
  have CV := fun wx => spec_SettingValid o l m wx
  have a0 : (w1.alloc (.cells #[.int .i64 o, .int .i64 l, .int .i64 m, .slice A3 ps.length c3, .int .i64 b, .int .i64 t] 31)).cell? ⟨bk, 0, none⟩ = some (.int .i64 o) := K3.cell 0
  have a1 : (w1.alloc (.cells #[.int .i64 o, .int .i64 l, .int .i64 m, .slice A3 ps.length c3, .int .i64 b, .int .i64 t] 31)).cell? ⟨bk, 1, none⟩ = some (.int .i64 l) := K3.cell 1
  have a2 : (w1.alloc (.cells #[.int .i64 o, .int .i64 l, .int .i64 m, .slice A3 ps.length c3, .int .i64 b, .int .i64 t] 31)).cell? ⟨bk, 2, none⟩ = some (.int .i64 m) := K3.cell 2
  have a3 : (w1.alloc (.cells #[.int .i64 o, .int .i64 l, .int .i64 m, .slice A3 ps.length c3, .int .i64 b, .int .i64 t] 31)).cell? ⟨bk, 3, none⟩ = some (.slice A3 ps.length c3) := K3.cell 3
  have a4 : (w1.alloc (.cells #[.int .i64 o, .int .i64 l, .int .i64 m, .slice A3 ps.length c3, .int .i64 b, .int .i64 t] 31)).cell? ⟨bk, 4, none⟩ = some (.int .i64 b) := K3.cell 4
  have a5 : (w1.alloc (.cells #[.int .i64 o, .int .i64 l, .int .i64 m, .slice A3 ps.length c3, .int .i64 b, .int .i64 t] 31)).cell? ⟨bk, 5, none⟩ = some (.int .i64 t) := K3.cell 5
  rw [hbk] at a0 a1 a2 a3 a4 a5
  by_cases hm : n % 6 = 0
  · have e8 : ((n : Int) % 6 == 0) = true := by rw [beq_iff_eq]; omega
    cases hok : Sx.setOK o l m
    · skip
      rw [hok] at CV
      have CV := hide CV
      go_wp2_with fail
      refine ((unhide CV) _).mono ?_; rintro e w4 ⟨rfl, hb4⟩
      have R4 := R3.below hb4 R3.lt
      have K4 := K3.below hb4 K3.lt
      have P4 := P3.below hb4
      have B4 := below_next (Nat.le_refl _) B3 hb4
      clear R3 K3 P3 B3 hb4 a0 a1 a2 a3 a4 a5
      rw [← hbk]
      clear hbk hok
      have a0 : w4.cell? ⟨bk, 0, none⟩ = some (.int .i64 o) := K4.cell 0
      have a1 : w4.cell? ⟨bk, 1, none⟩ = some (.int .i64 l) := K4.cell 1
      have a2 : w4.cell? ⟨bk, 2, none⟩ = some (.int .i64 m) := K4.cell 2
      have a3 : w4.cell? ⟨bk, 3, none⟩ = some (.slice A3 ps.length c3) := K4.cell 3
      have a4 : w4.cell? ⟨bk, 4, none⟩ = some (.int .i64 b) := K4.cell 4
      have a5 : w4.cell? ⟨bk, 5, none⟩ = some (.int .i64 t) := K4.cell 5
      have r0 : w4.cell? ⟨w.heap.size, 0, none⟩ = some (.int .i64 0) := R4.cell 0
      have r1 : w4.cell? ⟨w.heap.size, 1, none⟩ = some (.int .i64 0) := R4.cell 1
      have r2 : w4.cell? ⟨w.heap.size, 2, none⟩ = some (.int .i64 0) := R4.cell 2
      have r3 : w4.cell? ⟨w.heap.size, 3, none⟩ = some (.slice none 0 0) := R4.cell 3
      have r4 : w4.cell? ⟨w.heap.size, 4, none⟩ = some (.int .i64 0) := R4.cell 4
      have r5 : w4.cell? ⟨w.heap.size, 5, none⟩ = some (.int .i64 0) := R4.cell 5
      have fr0 := R4.frozen 0
      have fr1 := R4.frozen 1
      have fr2 := R4.frozen 2
      have fr3 := R4.frozen 3
      have fr4 := R4.frozen 4
      have fr5 := R4.frozen 5
      go_wp2_with fail
      have q := blk6_set R4 (.int .i64 o) (.int .i64 l) (.int .i64 m) (.slice A3 ps.length c3) (.int .i64 b) (.int .i64 t)
      have PF := P4.only (only6 w4 w.heap.size (.int .i64 o) (.int .i64 l) (.int .i64 m) (.slice A3 ps.length c3) (.int .i64 b) (.int .i64 t)) R4 (by decide)
      have BF := below_set6 (g := w.heap.size) B4 (Nat.le_refl _) (.int .i64 o) (.int .i64 l) (.int .i64 m) (.slice A3 ps.length c3) (.int .i64 b) (.int .i64 t)
      have q0 := q.cell 0
      have q1 := q.cell 1
      have q2 := q.cell 2
      have q3 := q.cell 3
      have q4 := q.cell 4
      have q5 := q.cell 5
      exact bodyPost_ret (v := .tuple #[kv o l m A3 ps.length c3 b t, .int .i64 x]) (by simp [results, Try.results54, go_sem, q0, q1, q2, q3, q4, q5]) rfl (drawki_mk rfl hl hcp PF BF)
    · skip
      rw [hok] at CV
      have CV := hide CV
      have hbd := Sx.setOK_bd hok
      have CC := hide (fun wx => spec_l1Clear o l m wx (by omega) (by omega))
      go_wp2_with fail
      refine ((unhide CV) _).mono ?_; rintro e w4 ⟨rfl, hb4⟩
      have R4 := R3.below hb4 R3.lt
      have K4 := K3.below hb4 K3.lt
      have P4 := P3.below hb4
      have B4 := below_next (Nat.le_refl _) B3 hb4
      clear R3 K3 P3 B3 hb4 a0 a1 a2 a3 a4 a5
      rw [← hbk]
      clear hbk hok
      have s3 : Below w.heap.size w w4.drew ∧ w4.drew.cell? ⟨bk, 0, none⟩ = some (.int .i64 o) ∧ w4.drew.cell? ⟨bk, 1, none⟩ = some (.int .i64 l) ∧ w4.drew.cell? ⟨bk, 2, none⟩ = some (.int .i64 m) ∧ w4.drew.cell? ⟨bk, 3, none⟩ = some (.slice A3 ps.length c3) ∧ w4.drew.cell? ⟨bk, 4, none⟩ = some (.int .i64 b) ∧ w4.drew.cell? ⟨bk, 5, none⟩ = some (.int .i64 t) ∧ OwnP w4.drew w.heap.size A3 ps := ⟨B4.drew, K4.cell 0, K4.cell 1, K4.cell 2, K4.cell 3, K4.cell 4, K4.cell 5, P4.below (Below.refl _ _).drew⟩
      go_wp2_with fail
      refine wp_region_held_drew (S := (fun W => Below w.heap.size w W ∧ W.cell? ⟨bk, 0, none⟩ = some (.int .i64 o) ∧ W.cell? ⟨bk, 1, none⟩ = some (.int .i64 l) ∧ W.cell? ⟨bk, 2, none⟩ = some (.int .i64 m) ∧ W.cell? ⟨bk, 3, none⟩ = some (.slice A3 ps.length c3) ∧ W.cell? ⟨bk, 4, none⟩ = some (.int .i64 b) ∧ W.cell? ⟨bk, 5, none⟩ = some (.int .i64 t) ∧ OwnP W w.heap.size A3 ps)) (by kernel_rfl) (by first | assumption | exact s3) (fun hHeld => ?_)
      refine wpAnyH_take (i := 0) (oi := { dst := some 20, op := Op.load 31 (Operand.tmp 4), type := 31, pos := "l2_words.go:459", after := #[], guard := none }) (v := ?_) rfl (by kernel_rfl) (by kernel_rfl) (by kernel_rfl) (fun _ _ _ h => h) (Or.inl ⟨by rfl, ?_⟩) (by assumption) ?_; rotate_left
      · intro W hW; (try dsimp only at hW); go_simp;  try (with_reducible rfl)
      try simp only [Act.put, List.setIfInBounds_toArray, List.set_cons_zero, List.set_cons_succ]
      refine wpAnyH_take (i := 1) (oi := { dst := some 21, op := Op.fieldAddr 31 (Operand.tmp 4) 0, type := 0, pos := "l2_words.go:459", after := #[], guard := none }) (v := ?_) rfl (by kernel_rfl) (by kernel_rfl) (by kernel_rfl) (fun _ _ _ h => h) (Or.inl ⟨by rfl, ?_⟩) (by assumption) ?_; rotate_left
      · intro W hW; (try dsimp only at hW); go_simp;  try (with_reducible rfl)
      try simp only [Act.put, List.setIfInBounds_toArray, List.set_cons_zero, List.set_cons_succ]
      refine wpAnyH_take (i := 2) (oi := { dst := some 22, op := Op.load 28 (Operand.tmp 21), type := 28, pos := "l2_words.go:459", after := #[{ on := 1, ground := Ground.data }], guard := none }) (v := ?_) rfl (by kernel_rfl) (by kernel_rfl) (by kernel_rfl) (fun _ _ _ h => h) (Or.inl ⟨by rfl, ?_⟩) (by assumption) ?_; rotate_left
      · intro W hW; (try dsimp only at hW); go_simp;  try (with_reducible rfl)
      try simp only [Act.put, List.setIfInBounds_toArray, List.set_cons_zero, List.set_cons_succ]
      refine wpAnyH_ready (rs := [3]) (by kernel_rfl) (by simp) (AllReadyH.cons (i := 3) (o := { dst := some 23, op := Op.call { callee := Callee.value (Operand.func 57), args := #[Operand.tmp 22], argTypes := #[28] }, type := 3, pos := "l2_words.go:459", after := #[{ on := 2, ground := Ground.data }], guard := none }) rfl (fun K hK => ?_) AllReadyH.nil)
      go_simp
      refine ((unhide CC) _).mono ?_; rintro e w5 ⟨rfl, hb5⟩
      have R5 := (Blk.drew R4).below hb5 R4.lt
      have K5 := (Blk.drew K4).below hb5 K4.lt
      have P5 := (OwnP.below P4 (Below.refl _ _).drew).below hb5
      have B5 := below_next (Nat.le_refl _) B4.drew hb5
      have HK5 : Below w.heap.size w w5 ∧ w5.cell? ⟨bk, 0, none⟩ = some (.int .i64 o) ∧ w5.cell? ⟨bk, 1, none⟩ = some (.int .i64 l) ∧ w5.cell? ⟨bk, 2, none⟩ = some (.int .i64 m) ∧ w5.cell? ⟨bk, 3, none⟩ = some (.slice A3 ps.length c3) ∧ w5.cell? ⟨bk, 4, none⟩ = some (.int .i64 b) ∧ w5.cell? ⟨bk, 5, none⟩ = some (.int .i64 t) ∧ OwnP w5 w.heap.size A3 ps := ⟨B5, K5.cell 0, K5.cell 1, K5.cell 2, K5.cell 3, K5.cell 4, K5.cell 5, P5⟩
      try go_wp2_with fail
      refine hK.out _ _ (by (try dsimp only); first | exact HK5) (fun hHeld => ?_)
      clear hK K
      try simp only [Act.put, List.setIfInBounds_toArray, List.set_cons_zero, List.set_cons_succ]
      refine wpAnyH_ready (rs := [4]) (by kernel_rfl) (by simp) (AllReadyH.cons (i := 4) (o := { dst := none, op := Op.store 31 (Operand.tmp 2) (Operand.tmp 20), type := 0, pos := "l2_words.go:459", after := #[{ on := 0, ground := Ground.data }, { on := 3, ground := Ground.chain }, { on := 0, ground := Ground.phase }, { on := 1, ground := Ground.textOnly Departure.lateStores }, { on := 2, ground := Ground.textOnly Departure.lateStores }, { on := 3, ground := Ground.textOnly Departure.lateStoresUnsure }], guard := none }) rfl (fun K hK => ?_) AllReadyH.nil)
      have r0 : w5.cell? ⟨w.heap.size, 0, none⟩ = some (.int .i64 0) := R5.cell 0
      have r1 : w5.cell? ⟨w.heap.size, 1, none⟩ = some (.int .i64 0) := R5.cell 1
      have r2 : w5.cell? ⟨w.heap.size, 2, none⟩ = some (.int .i64 0) := R5.cell 2
      have r3 : w5.cell? ⟨w.heap.size, 3, none⟩ = some (.slice none 0 0) := R5.cell 3
      have r4 : w5.cell? ⟨w.heap.size, 4, none⟩ = some (.int .i64 0) := R5.cell 4
      have r5 : w5.cell? ⟨w.heap.size, 5, none⟩ = some (.int .i64 0) := R5.cell 5
      have fr0 := R5.frozen 0
      have fr1 := R5.frozen 1
      have fr2 := R5.frozen 2
      have fr3 := R5.frozen 3
      have fr4 := R5.frozen 4
      have fr5 := R5.frozen 5
      have RS := blk6_set R5 (.int .i64 o) (.int .i64 l) (.int .i64 m) (.slice A3 ps.length c3) (.int .i64 b) (.int .i64 t)
      have HG := hide (only6 w5 w.heap.size (.int .i64 o) (.int .i64 l) (.int .i64 m) (.slice A3 ps.length c3) (.int .i64 b) (.int .i64 t))
      have PS := P5.only HG.out R5 (by decide)
      have BS := below_set6 (g := w.heap.size) B5 (Nat.le_refl _) (.int .i64 o) (.int .i64 l) (.int .i64 m) (.slice A3 ps.length c3) (.int .i64 b) (.int .i64 t)
      have KS := K5.far6 (g := w.heap.size) (by omega) (.int .i64 o) (.int .i64 l) (.int .i64 m) (.slice A3 ps.length c3) (.int .i64 b) (.int .i64 t)
      have HS : Below w.heap.size w ((((((w5.setCell ⟨w.heap.size, 0, none⟩ (.int .i64 o)).setCell ⟨w.heap.size, 1, none⟩ (.int .i64 l)).setCell ⟨w.heap.size, 2, none⟩ (.int .i64 m)).setCell ⟨w.heap.size, 3, none⟩ (.slice A3 ps.length c3)).setCell ⟨w.heap.size, 4, none⟩ (.int .i64 b)).setCell ⟨w.heap.size, 5, none⟩ (.int .i64 t)) ∧ ((((((w5.setCell ⟨w.heap.size, 0, none⟩ (.int .i64 o)).setCell ⟨w.heap.size, 1, none⟩ (.int .i64 l)).setCell ⟨w.heap.size, 2, none⟩ (.int .i64 m)).setCell ⟨w.heap.size, 3, none⟩ (.slice A3 ps.length c3)).setCell ⟨w.heap.size, 4, none⟩ (.int .i64 b)).setCell ⟨w.heap.size, 5, none⟩ (.int .i64 t)).cell? ⟨bk, 0, none⟩ = some (.int .i64 o) ∧ ((((((w5.setCell ⟨w.heap.size, 0, none⟩ (.int .i64 o)).setCell ⟨w.heap.size, 1, none⟩ (.int .i64 l)).setCell ⟨w.heap.size, 2, none⟩ (.int .i64 m)).setCell ⟨w.heap.size, 3, none⟩ (.slice A3 ps.length c3)).setCell ⟨w.heap.size, 4, none⟩ (.int .i64 b)).setCell ⟨w.heap.size, 5, none⟩ (.int .i64 t)).cell? ⟨bk, 1, none⟩ = some (.int .i64 l) ∧ ((((((w5.setCell ⟨w.heap.size, 0, none⟩ (.int .i64 o)).setCell ⟨w.heap.size, 1, none⟩ (.int .i64 l)).setCell ⟨w.heap.size, 2, none⟩ (.int .i64 m)).setCell ⟨w.heap.size, 3, none⟩ (.slice A3 ps.length c3)).setCell ⟨w.heap.size, 4, none⟩ (.int .i64 b)).setCell ⟨w.heap.size, 5, none⟩ (.int .i64 t)).cell? ⟨bk, 2, none⟩ = some (.int .i64 m) ∧ ((((((w5.setCell ⟨w.heap.size, 0, none⟩ (.int .i64 o)).setCell ⟨w.heap.size, 1, none⟩ (.int .i64 l)).setCell ⟨w.heap.size, 2, none⟩ (.int .i64 m)).setCell ⟨w.heap.size, 3, none⟩ (.slice A3 ps.length c3)).setCell ⟨w.heap.size, 4, none⟩ (.int .i64 b)).setCell ⟨w.heap.size, 5, none⟩ (.int .i64 t)).cell? ⟨bk, 3, none⟩ = some (.slice A3 ps.length c3) ∧ ((((((w5.setCell ⟨w.heap.size, 0, none⟩ (.int .i64 o)).setCell ⟨w.heap.size, 1, none⟩ (.int .i64 l)).setCell ⟨w.heap.size, 2, none⟩ (.int .i64 m)).setCell ⟨w.heap.size, 3, none⟩ (.slice A3 ps.length c3)).setCell ⟨w.heap.size, 4, none⟩ (.int .i64 b)).setCell ⟨w.heap.size, 5, none⟩ (.int .i64 t)).cell? ⟨bk, 4, none⟩ = some (.int .i64 b) ∧ ((((((w5.setCell ⟨w.heap.size, 0, none⟩ (.int .i64 o)).setCell ⟨w.heap.size, 1, none⟩ (.int .i64 l)).setCell ⟨w.heap.size, 2, none⟩ (.int .i64 m)).setCell ⟨w.heap.size, 3, none⟩ (.slice A3 ps.length c3)).setCell ⟨w.heap.size, 4, none⟩ (.int .i64 b)).setCell ⟨w.heap.size, 5, none⟩ (.int .i64 t)).cell? ⟨bk, 5, none⟩ = some (.int .i64 t) ∧ OwnP ((((((w5.setCell ⟨w.heap.size, 0, none⟩ (.int .i64 o)).setCell ⟨w.heap.size, 1, none⟩ (.int .i64 l)).setCell ⟨w.heap.size, 2, none⟩ (.int .i64 m)).setCell ⟨w.heap.size, 3, none⟩ (.slice A3 ps.length c3)).setCell ⟨w.heap.size, 4, none⟩ (.int .i64 b)).setCell ⟨w.heap.size, 5, none⟩ (.int .i64 t)) w.heap.size A3 ps := ⟨BS, KS.cell 0, KS.cell 1, KS.cell 2, KS.cell 3, KS.cell 4, KS.cell 5, PS⟩
      go_simp
      clear r0 fr0 r1 fr1 r2 fr2 r3 fr3 r4 fr4 r5 fr5 HG
      refine hK.out _ _ (by (try dsimp only); first | exact HS) (fun hHeld => ?_)
      clear hK K
      try simp only [Act.put, List.setIfInBounds_toArray, List.set_cons_zero, List.set_cons_succ]
      refine wpAnyH_take (i := 5) (oi := { dst := some 3, op := Op.assign (Operand.tmp 23), type := 3, pos := "l2_words.go:459", after := #[{ on := 3, ground := Ground.data }, { on := 4, ground := Ground.chain }, { on := 0, ground := Ground.phase }, { on := 1, ground := Ground.phase }, { on := 2, ground := Ground.phase }, { on := 3, ground := Ground.phase }, { on := 4, ground := Ground.phase }], guard := none }) (v := ?_) rfl (by kernel_rfl) (by kernel_rfl) (by kernel_rfl) (fun _ _ _ h => h) (Or.inl ⟨by rfl, ?_⟩) (by assumption) ?_; rotate_left
      · intro W hW; (try dsimp only at hW); go_simp;  try (with_reducible rfl)
      try simp only [Act.put, List.setIfInBounds_toArray, List.set_cons_zero, List.set_cons_succ]
      refine wpAnyH_done (by kernel_rfl) ?_ _
      clear hHeld s3
      go_wp2_with fail
      have q0 := RS.cell 0
      have q1 := RS.cell 1
      have q2 := RS.cell 2
      have q3 := RS.cell 3
      have q4 := RS.cell 4
      have q5 := RS.cell 5
      exact bodyPost_ret (v := .tuple #[kv o l m A3 ps.length c3 b t, .int .i64 (Sx.two l)]) (by simp [results, Try.results54, go_sem, q0, q1, q2, q3, q4, q5]) rfl (drawki_mk rfl hl hcp PS BS)
  · skip
    have e8 : ((n : Int) % 6 == 0) = false := by rw [beq_eq_false_iff_ne]; omega
    clear hbk CV
    have r0 : (w1.alloc (.cells #[.int .i64 o, .int .i64 l, .int .i64 m, .slice A3 ps.length c3, .int .i64 b, .int .i64 t] 31)).cell? ⟨w.heap.size, 0, none⟩ = some (.int .i64 0) := R3.cell 0
    have r1 : (w1.alloc (.cells #[.int .i64 o, .int .i64 l, .int .i64 m, .slice A3 ps.length c3, .int .i64 b, .int .i64 t] 31)).cell? ⟨w.heap.size, 1, none⟩ = some (.int .i64 0) := R3.cell 1
    have r2 : (w1.alloc (.cells #[.int .i64 o, .int .i64 l, .int .i64 m, .slice A3 ps.length c3, .int .i64 b, .int .i64 t] 31)).cell? ⟨w.heap.size, 2, none⟩ = some (.int .i64 0) := R3.cell 2
    have r3 : (w1.alloc (.cells #[.int .i64 o, .int .i64 l, .int .i64 m, .slice A3 ps.length c3, .int .i64 b, .int .i64 t] 31)).cell? ⟨w.heap.size, 3, none⟩ = some (.slice none 0 0) := R3.cell 3
    have r4 : (w1.alloc (.cells #[.int .i64 o, .int .i64 l, .int .i64 m, .slice A3 ps.length c3, .int .i64 b, .int .i64 t] 31)).cell? ⟨w.heap.size, 4, none⟩ = some (.int .i64 0) := R3.cell 4
    have r5 : (w1.alloc (.cells #[.int .i64 o, .int .i64 l, .int .i64 m, .slice A3 ps.length c3, .int .i64 b, .int .i64 t] 31)).cell? ⟨w.heap.size, 5, none⟩ = some (.int .i64 0) := R3.cell 5
    have fr0 := R3.frozen 0
    have fr1 := R3.frozen 1
    have fr2 := R3.frozen 2
    have fr3 := R3.frozen 3
    have fr4 := R3.frozen 4
    have fr5 := R3.frozen 5
    go_wp2_with fail
    have q := blk6_set R3 (.int .i64 o) (.int .i64 l) (.int .i64 m) (.slice A3 ps.length c3) (.int .i64 b) (.int .i64 t)
    have PF := P3.only (only6 (w1.alloc (.cells #[.int .i64 o, .int .i64 l, .int .i64 m, .slice A3 ps.length c3, .int .i64 b, .int .i64 t] 31)) w.heap.size (.int .i64 o) (.int .i64 l) (.int .i64 m) (.slice A3 ps.length c3) (.int .i64 b) (.int .i64 t)) R3 (by decide)
    have BF := below_set6 (g := w.heap.size) B3 (Nat.le_refl _) (.int .i64 o) (.int .i64 l) (.int .i64 m) (.slice A3 ps.length c3) (.int .i64 b) (.int .i64 t)
    have q0 := q.cell 0
    have q1 := q.cell 1
    have q2 := q.cell 2
    have q3 := q.cell 3
    have q4 := q.cell 4
    have q5 := q.cell 5
    exact bodyPost_ret (v := .tuple #[kv o l m A3 ps.length c3 b t, .int .i64 x]) (by simp [results, Try.results54, go_sem, q0, q1, q2, q3, q4, q5]) rfl (drawki_mk rfl hl hcp PF BF)


end Go.Proofs.Ytegfcpdkehgdpaa

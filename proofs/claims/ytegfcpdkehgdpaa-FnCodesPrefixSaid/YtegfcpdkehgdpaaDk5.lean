/- The walk of drawn codes. Conditions: a reader at fewer than 8400000 picks; something that can be known. -/
import Derived.Test.YtegfcpdkehgdpaaDk3
import Derived.Test.YtegfcpdkehgdpaaCw2
namespace Go.Proofs.Ytegfcpdkehgdpaa
open Go.RowKit

/-- Drawn codes: a row of the call's own. -/
def CodesK (B g p d base : Nat) (A : Option Addr) (ps : List (Int × Int)) (k : Nat) (w : World) (e : Ending) (w' : World) : Prop :=
  ∃ (Aw : Option Addr) (cw : Nat) (xs : List Int), e = .returned (.slice Aw xs.length cw) ∧ xs.length ≤ k ∧ w'.ownsRow w.heap.size 3 1 (.slice Aw xs.length cw) xs.length (ivals xs) ∧ OwnP w' base A ps ∧ RdPost B g p d w w'

set_option maxRecDepth 100000 in
set_option maxHeartbeats 4000000 in
theorem rd_l2Codes (B g p base most : Nat) (o l m : Int) (A : Option Addr) (c : Nat) (b t : Int) (ps : List (Int × Int)) (w : World) (h : Rd w B g p) (hp : p ≤ 8000000) (hmost : most ≤ 100) (hP : OwnP w base A ps) (hbase : base ≤ w.heap.size) (hk : Sx.kOK o l m ps b t = true) (hln : ps.length ≤ 100) (hcap : ps.length ≤ c) :
    Calls Try.prog 105 #[.pointer (some ⟨g, 0, none⟩), kv o l m A ps.length c b t, .int .i64 most] w (CodesK B g p (5 * most + 4) base A ps (most + 1) w) := by
  obtain ⟨i0, hi0, hz0, hz1, hz3⟩ := info_parts try_infoI
  obtain ⟨m0, m1, m2, m3, m4, m5⟩ := Sx.kOK_nums hk
  have hlt := h.lt
  have HK0 := hide hk
  have CC := hide (fun wx => spec_l1Clear o l m wx (by omega) (by omega))
  have CE := hide (fun wx => spec_l1End o l m wx (by omega) (by omega))
  have B0 : Below w.heap.size w ((w.alloc (.cells #[.int .i64 o, .int .i64 l, .int .i64 m, .slice A ps.length c, .int .i64 b, .int .i64 t] 31)).alloc (.cells #[] 3)) := ((Below.refl _ _).alloc (Nat.le_refl _) _).alloc (by simp) _
  have K0 := (Blk.new w 31 #[.int .i64 o, .int .i64 l, .int .i64 m, .slice A ps.length c, .int .i64 b, .int .i64 t]).alloc (.cells #[] 3)
  have P0 := hP.below B0
  have Q0 := P0
  have W0 := own_base (own_emptyP (w.alloc (.cells #[.int .i64 o, .int .i64 l, .int .i64 m, .slice A ps.length c, .int .i64 b, .int .i64 t] 31)) 3 1 (w.heap.size + 1) (by simp)) (by omega : w.heap.size ≤ w.heap.size + 1)
  have H0 := h.below B0
  have G0 := below_grownBy B0 (some g)
  have e1 : IntKind.i64.wrap ((most : Int) + 1) = (most : Int) + 1 := IntWalk.i64_in _ (by omega)
  clear h B0 hP hk
  go_enter Try.func105, Try.ntmps105
  go_wp2_with fail
  refine (rd_pick B g p ((most : Int) + 1) _ H0 (by omega) (by omega) (by omega)).mono ?_; rintro e w1 ⟨v0, rfl, v00, v01, _, hr1, hg1⟩
  have v01 := v01 (by omega)
  have K1 := K0.rd H0 hg1 (by decide)
  have P1 := P0.rd H0 hg1
  have Q1 := Q0.rd H0 hg1
  have W1 := own_rd W0 H0 hg1 (by decide)
  have H1 := hr1
  have G1 := grown_trans' G0 hg1
  clear K0 P0 Q0 W0 H0 G0 hr1 hg1
  obtain ⟨v, rfl⟩ := Int.eq_ofNat_of_zero_le v00
  clear e1
  go_wp2_with fail
  go_loopw [7, 8] (fun s7 s8 wr => ∃ (v : Nat) (xs : List Int) (Aw A' : Option Addr) (cw c' : Nat) (P : List (Int × Int)) (t' : Int) (pq : Nat), s8 = .int .i64 v ∧ s7 = .slice Aw xs.length cw ∧ xs.length + v ≤ most ∧ v ≤ most ∧ pq + 5 * v ≤ p + 1 + 5 * most ∧ P.length + v ≤ ps.length + most ∧ P.length ≤ c' ∧ Hid (Sx.kOK o l m P b t' = true) ∧ Blk wr w.heap.size 31 #[.int .i64 o, .int .i64 l, .int .i64 m, .slice A' P.length c', .int .i64 b, .int .i64 t'] ∧ OwnP wr base A' P ∧ OwnP wr base A ps ∧ wr.ownsRow w.heap.size 3 1 (.slice Aw xs.length cw) xs.length (ivals xs) ∧ Rd wr B g pq ∧ w.grownBy wr (some g)) (fun _ s8 _ => (intOf s8).toNat)
  case atStart => exact ⟨v, [], _, A, 0, c, ps, t, _, rfl, rfl, by simp; omega, by omega, by omega, by omega, hcap, HK0, K1, P1, Q1, W1, H1, G1⟩
  case round =>
    obtain ⟨v, xs, Aw, A', cw, c', P, t', pq, rfl, rfl, hxv, hv, hpq, hPl, hcap2, HK, K1, P1, Q1, W1, H1, G1⟩ := hrel
    by_cases hv0 : 0 < v
    · have hvI : (0 : Int) < (v : Int) := by omega
      have e7 : IntKind.i64.wrap ((v : Int) - 1) = ((v - 1 : Nat) : Int) := by rw [IntWalk.i64_in _ (by omega)]; omega
      have e8 : (v : Int) - 1 = ((v - 1 : Nat) : Int) := by omega
      have a0 : wr.cell? ⟨w.heap.size, 0, none⟩ = some (.int .i64 o) := K1.cell 0
      have a1 : wr.cell? ⟨w.heap.size, 1, none⟩ = some (.int .i64 l) := K1.cell 1
      have a2 : wr.cell? ⟨w.heap.size, 2, none⟩ = some (.int .i64 m) := K1.cell 2
      have a3 : wr.cell? ⟨w.heap.size, 3, none⟩ = some (.slice A' P.length c') := K1.cell 3
      have a4 : wr.cell? ⟨w.heap.size, 4, none⟩ = some (.int .i64 b) := K1.cell 4
      have a5 : wr.cell? ⟨w.heap.size, 5, none⟩ = some (.int .i64 t') := K1.cell 5
      go_wp2_with fail
      refine (rd_l2Pick B g pq o l m A' P.length c' b t' _ H1 (by omega) m0 m1 (by omega) m3 (by omega)).mono ?_; rintro e w2 ⟨x, rfl, hcan, ⟨p2, hp2, hr2⟩, hg2⟩
      have K2 := K1.rd H1 hg2 (by decide)
      have P2 := P1.rd H1 hg2
      have Q2 := Q1.rd H1 hg2
      have W2 := own_rd W1 H1 hg2 (by decide)
      have H2 := hr2
      have G2 := grown_trans' G1 hg2
      clear K1 P1 Q1 W1 H1 G1 hr2 hg2 a0 a1 a2 a3 a4 a5
      go_wp2_with fail
      refine (rd_pick B g p2 12 _ H2 (by omega) (by omega) (by omega)).mono ?_; rintro e w3 ⟨u, rfl, _, _, _, hr3, hg3⟩
      have K3 := K2.rd H2 hg3 (by decide)
      have P3 := P2.rd H2 hg3
      have Q3 := Q2.rd H2 hg3
      have W3 := own_rd W2 H2 hg3 (by decide)
      have H3 := hr3
      have G3 := grown_trans' G2 hg3
      clear K2 P2 Q2 W2 H2 G2 hr3 hg3
      by_cases hu : u = 0
      · have eu : (u == 0) = true := by rw [hu]; rfl
        have a0 : w3.cell? ⟨w.heap.size, 0, none⟩ = some (.int .i64 o) := K3.cell 0
        have a1 : w3.cell? ⟨w.heap.size, 1, none⟩ = some (.int .i64 l) := K3.cell 1
        have a2 : w3.cell? ⟨w.heap.size, 2, none⟩ = some (.int .i64 m) := K3.cell 2
        have a3 : w3.cell? ⟨w.heap.size, 3, none⟩ = some (.slice A' P.length c') := K3.cell 3
        have a4 : w3.cell? ⟨w.heap.size, 4, none⟩ = some (.int .i64 b) := K3.cell 4
        have a5 : w3.cell? ⟨w.heap.size, 5, none⟩ = some (.int .i64 t') := K3.cell 5
        go_wp2_with fail
        refine ((unhide CC) _).mono ?_; rintro e w4 ⟨rfl, hb⟩
        have K4 := K3.below hb K3.lt
        have P4 := P3.below hb
        have Q4 := Q3.below hb
        have W4 := own_below W3 hb
        have H4 := H3.below hb
        have G4 := grown_more G3 hb
        clear K3 P3 Q3 W3 H3 G3 hb a0 a1 a2 a3 a4 a5
        obtain ⟨x, hx⟩ : ∃ x, x = Sx.two l := ⟨_, rfl⟩
        have hgo : Sx.goB l m P.length t' x = true := by simp [Sx.goB, hx]
        rw [← hx]
        clear hx hcan hu
        have CS := fun w2 (hp : PR w2 w2.heap.size A' P) => spec_l2Step o l m A' c' b t' x P w2 hp hcap2 HK.out hgo
        obtain ⟨P2, hP2⟩ : ∃ P2, P2 = Sx.stepP l m P b t' x := ⟨_, rfl⟩
        obtain ⟨t2, hT2⟩ : ∃ t2, t2 = Sx.advT l x := ⟨_, rfl⟩
        have HK2 := Sx.step_ok HK.out hgo
        have hl2 := Sx.step_len l m P b t' x
        rw [← hP2, ← hT2] at HK2 CS
        rw [← hP2] at hl2
        have HK2 := hide HK2
        have CS := hide CS
        have hw1 : (xs ++ [x]).length = xs.length + 1 := by simp
        clear hP2 hT2 hgo
        have a0 : w4.cell? ⟨w.heap.size, 0, none⟩ = some (.int .i64 o) := K4.cell 0
        have a1 : w4.cell? ⟨w.heap.size, 1, none⟩ = some (.int .i64 l) := K4.cell 1
        have a2 : w4.cell? ⟨w.heap.size, 2, none⟩ = some (.int .i64 m) := K4.cell 2
        have a3 : w4.cell? ⟨w.heap.size, 3, none⟩ = some (.slice A' P.length c') := K4.cell 3
        have a4 : w4.cell? ⟨w.heap.size, 4, none⟩ = some (.int .i64 b) := K4.cell 4
        have a5 : w4.cell? ⟨w.heap.size, 5, none⟩ = some (.int .i64 t') := K4.cell 5
        go_wp2_with (at_builtin; refine wpList_append_any _ rfl _ _ _ rfl w.heap.size 3 i0 (.int .i64 0) 1 8 Try.underlying38 hi0 hz0 hz1 hz3 (by rfl) (by decide) (.slice Aw xs.length cw) xs.length (ivals xs) rfl (W4.alloc _) _ _ 1 1 [.int .i64 x] rfl (reads_one _ _ _) (by simp [Value.oneCell']) (by simp only [maxLen]; omega) (by omega) (by have := G4.size; simp; omega) ?_; intro v' w9 hown9 hg9 _; have BY : Below w4.heap.size w4 (w4.alloc (.cells #[.int .i64 x] 3)) := (Below.refl _ _).alloc (Nat.le_refl _) _; have WY := W4.alloc (.cells #[.int .i64 x] 3); have K9 := blk_other (K4.alloc (.cells #[.int .i64 x] 3)) WY hg9 (by decide); have P9 := (P4.below BY).other WY hg9 (by decide); have Q9 := (Q4.below BY).other WY hg9 (by decide); have H9 := (H4.below BY).row WY hg9 (by decide) (by have := H4.1; have := H4.lt; omega); have G9 := grown_row (grown_more G4 BY) WY hg9 (Nat.le_refl _); have W9 := own_nodup hown9; obtain ⟨Aw2, cw2, rfl⟩ := own_shapeN W9; clear WY BY hown9 hg9; clear K4 P4 Q4 W4 H4 G4; have a0 : w9.cell? ⟨w.heap.size, 0, none⟩ = some (.int .i64 o) := K9.cell 0; have a1 : w9.cell? ⟨w.heap.size, 1, none⟩ = some (.int .i64 l) := K9.cell 1; have a2 : w9.cell? ⟨w.heap.size, 2, none⟩ = some (.int .i64 m) := K9.cell 2; have a3 : w9.cell? ⟨w.heap.size, 3, none⟩ = some (.slice A' P.length c') := K9.cell 3; have a4 : w9.cell? ⟨w.heap.size, 4, none⟩ = some (.int .i64 b) := K9.cell 4; have a5 : w9.cell? ⟨w.heap.size, 5, none⟩ = some (.int .i64 t') := K9.cell 5)
        refine ((unhide CS) _ (P9.pr (Nat.le_refl _))).mono ?_; rintro e w10 ⟨A4, c4, rfl, O4, hc4, hb⟩
        have O4 := O4.mono (Nat.le_trans hbase G9.size)
        have K10 := K9.below hb K9.lt
        have P10 := P9.below hb
        have Q10 := Q9.below hb
        have W10 := own_below W9 hb
        have H10 := H9.below hb
        have G10 := grown_more G9 hb
        clear K9 P9 Q9 W9 H9 G9 hb a0 a1 a2 a3 a4 a5
        have a0 : w10.cell? ⟨w.heap.size, 0, none⟩ = some (.int .i64 o) := K10.cell 0
        have a1 : w10.cell? ⟨w.heap.size, 1, none⟩ = some (.int .i64 l) := K10.cell 1
        have a2 : w10.cell? ⟨w.heap.size, 2, none⟩ = some (.int .i64 m) := K10.cell 2
        have a3 : w10.cell? ⟨w.heap.size, 3, none⟩ = some (.slice A' P.length c') := K10.cell 3
        have a4 : w10.cell? ⟨w.heap.size, 4, none⟩ = some (.int .i64 b) := K10.cell 4
        have a5 : w10.cell? ⟨w.heap.size, 5, none⟩ = some (.int .i64 t') := K10.cell 5
        have fa0 := K10.frozen 0
        have fa1 := K10.frozen 1
        have fa2 := K10.frozen 2
        have fa3 := K10.frozen 3
        have fa4 := K10.frozen 4
        have fa5 := K10.frozen 5
        have KS := blk6_set K10 (.int .i64 o) (.int .i64 l) (.int .i64 m) (.slice A4 P2.length c4) (.int .i64 b) (.int .i64 t2)
        have HG := hide (only6 w10 w.heap.size (.int .i64 o) (.int .i64 l) (.int .i64 m) (.slice A4 P2.length c4) (.int .i64 b) (.int .i64 t2))
        have PS := O4.only HG.out K10 (by decide)
        have QS := Q10.only HG.out K10 (by decide)
        have WS := W10.kept HG.out (.inr (own_blk_ne W10 K10 (by decide)))
        have HS := H10.only HG.out (by omega) (by have := H10.1; omega)
        have GS := only6r G10 (Nat.le_refl w.heap.size) (.int .i64 o) (.int .i64 l) (.int .i64 m) (.slice A4 P2.length c4) (.int .i64 b) (.int .i64 t2)
        clear P10 Q10 W10 H10 G10 O4 HG
        go_wp2_with fail
        go_roundw
        case rel => exact ⟨v - 1, xs ++ [x], Aw2, A4, cw2, c4, P2, t2, _, by first | rfl | (rw [e8]) | (simp; omega), by rw [hw1], by omega, by omega, by omega, by omega, hc4, HK2, KS, PS, QS, by rw [hw1]; exact own_ints WS, HS, GS⟩
        case measure => simp [intOf]; omega
      · have eu : (u == 0) = false := by rw [beq_eq_false_iff_ne]; exact hu
        have hgo : Sx.goB l m P.length t' x = true := by simp [Sx.goB, hcan]
        clear hcan hu
        have CS := fun w2 (hp : PR w2 w2.heap.size A' P) => spec_l2Step o l m A' c' b t' x P w2 hp hcap2 HK.out hgo
        obtain ⟨P2, hP2⟩ : ∃ P2, P2 = Sx.stepP l m P b t' x := ⟨_, rfl⟩
        obtain ⟨t2, hT2⟩ : ∃ t2, t2 = Sx.advT l x := ⟨_, rfl⟩
        have HK2 := Sx.step_ok HK.out hgo
        have hl2 := Sx.step_len l m P b t' x
        rw [← hP2, ← hT2] at HK2 CS
        rw [← hP2] at hl2
        have HK2 := hide HK2
        have CS := hide CS
        have hw1 : (xs ++ [x]).length = xs.length + 1 := by simp
        clear hP2 hT2 hgo
        have a0 : w3.cell? ⟨w.heap.size, 0, none⟩ = some (.int .i64 o) := K3.cell 0
        have a1 : w3.cell? ⟨w.heap.size, 1, none⟩ = some (.int .i64 l) := K3.cell 1
        have a2 : w3.cell? ⟨w.heap.size, 2, none⟩ = some (.int .i64 m) := K3.cell 2
        have a3 : w3.cell? ⟨w.heap.size, 3, none⟩ = some (.slice A' P.length c') := K3.cell 3
        have a4 : w3.cell? ⟨w.heap.size, 4, none⟩ = some (.int .i64 b) := K3.cell 4
        have a5 : w3.cell? ⟨w.heap.size, 5, none⟩ = some (.int .i64 t') := K3.cell 5
        go_wp2_with (at_builtin; refine wpList_append_any _ rfl _ _ _ rfl w.heap.size 3 i0 (.int .i64 0) 1 8 Try.underlying38 hi0 hz0 hz1 hz3 (by rfl) (by decide) (.slice Aw xs.length cw) xs.length (ivals xs) rfl (W3.alloc _) _ _ 1 1 [.int .i64 x] rfl (reads_one _ _ _) (by simp [Value.oneCell']) (by simp only [maxLen]; omega) (by omega) (by have := G3.size; simp; omega) ?_; intro v' w9 hown9 hg9 _; have BY : Below w3.heap.size w3 (w3.alloc (.cells #[.int .i64 x] 3)) := (Below.refl _ _).alloc (Nat.le_refl _) _; have WY := W3.alloc (.cells #[.int .i64 x] 3); have K9 := blk_other (K3.alloc (.cells #[.int .i64 x] 3)) WY hg9 (by decide); have P9 := (P3.below BY).other WY hg9 (by decide); have Q9 := (Q3.below BY).other WY hg9 (by decide); have H9 := (H3.below BY).row WY hg9 (by decide) (by have := H3.1; have := H3.lt; omega); have G9 := grown_row (grown_more G3 BY) WY hg9 (Nat.le_refl _); have W9 := own_nodup hown9; obtain ⟨Aw2, cw2, rfl⟩ := own_shapeN W9; clear WY BY hown9 hg9; clear K3 P3 Q3 W3 H3 G3; have a0 : w9.cell? ⟨w.heap.size, 0, none⟩ = some (.int .i64 o) := K9.cell 0; have a1 : w9.cell? ⟨w.heap.size, 1, none⟩ = some (.int .i64 l) := K9.cell 1; have a2 : w9.cell? ⟨w.heap.size, 2, none⟩ = some (.int .i64 m) := K9.cell 2; have a3 : w9.cell? ⟨w.heap.size, 3, none⟩ = some (.slice A' P.length c') := K9.cell 3; have a4 : w9.cell? ⟨w.heap.size, 4, none⟩ = some (.int .i64 b) := K9.cell 4; have a5 : w9.cell? ⟨w.heap.size, 5, none⟩ = some (.int .i64 t') := K9.cell 5)
        refine ((unhide CS) _ (P9.pr (Nat.le_refl _))).mono ?_; rintro e w10 ⟨A4, c4, rfl, O4, hc4, hb⟩
        have O4 := O4.mono (Nat.le_trans hbase G9.size)
        have K10 := K9.below hb K9.lt
        have P10 := P9.below hb
        have Q10 := Q9.below hb
        have W10 := own_below W9 hb
        have H10 := H9.below hb
        have G10 := grown_more G9 hb
        clear K9 P9 Q9 W9 H9 G9 hb a0 a1 a2 a3 a4 a5
        have a0 : w10.cell? ⟨w.heap.size, 0, none⟩ = some (.int .i64 o) := K10.cell 0
        have a1 : w10.cell? ⟨w.heap.size, 1, none⟩ = some (.int .i64 l) := K10.cell 1
        have a2 : w10.cell? ⟨w.heap.size, 2, none⟩ = some (.int .i64 m) := K10.cell 2
        have a3 : w10.cell? ⟨w.heap.size, 3, none⟩ = some (.slice A' P.length c') := K10.cell 3
        have a4 : w10.cell? ⟨w.heap.size, 4, none⟩ = some (.int .i64 b) := K10.cell 4
        have a5 : w10.cell? ⟨w.heap.size, 5, none⟩ = some (.int .i64 t') := K10.cell 5
        have fa0 := K10.frozen 0
        have fa1 := K10.frozen 1
        have fa2 := K10.frozen 2
        have fa3 := K10.frozen 3
        have fa4 := K10.frozen 4
        have fa5 := K10.frozen 5
        have KS := blk6_set K10 (.int .i64 o) (.int .i64 l) (.int .i64 m) (.slice A4 P2.length c4) (.int .i64 b) (.int .i64 t2)
        have HG := hide (only6 w10 w.heap.size (.int .i64 o) (.int .i64 l) (.int .i64 m) (.slice A4 P2.length c4) (.int .i64 b) (.int .i64 t2))
        have PS := O4.only HG.out K10 (by decide)
        have QS := Q10.only HG.out K10 (by decide)
        have WS := W10.kept HG.out (.inr (own_blk_ne W10 K10 (by decide)))
        have HS := H10.only HG.out (by omega) (by have := H10.1; omega)
        have GS := only6r G10 (Nat.le_refl w.heap.size) (.int .i64 o) (.int .i64 l) (.int .i64 m) (.slice A4 P2.length c4) (.int .i64 b) (.int .i64 t2)
        clear P10 Q10 W10 H10 G10 O4 HG
        go_wp2_with fail
        go_roundw
        case rel => exact ⟨v - 1, xs ++ [x], Aw2, A4, cw2, c4, P2, t2, _, by first | rfl | (rw [e8]) | (simp; omega), by rw [hw1], by omega, by omega, by omega, by omega, hc4, HK2, KS, PS, QS, by rw [hw1]; exact own_ints WS, HS, GS⟩
        case measure => simp [intOf]; omega
    · obtain rfl : v = 0 := by omega
      go_wp2_with fail
      refine (rd_pick B g pq 5 _ H1 (by omega) (by omega) (by omega)).mono ?_; rintro e w2 ⟨u, rfl, u0, _, _, hr2, hg2⟩
      have K2 := K1.rd H1 hg2 (by decide)
      have P2 := P1.rd H1 hg2
      have Q2 := Q1.rd H1 hg2
      have W2 := own_rd W1 H1 hg2 (by decide)
      have H2 := hr2
      have G2 := grown_trans' G1 hg2
      clear K1 P1 Q1 W1 H1 G1 hr2 hg2
      by_cases hu : 0 < u
      · have hw1 : (xs ++ [Sx.two l + 1]).length = xs.length + 1 := by simp
        have a0 : w2.cell? ⟨w.heap.size, 0, none⟩ = some (.int .i64 o) := K2.cell 0
        have a1 : w2.cell? ⟨w.heap.size, 1, none⟩ = some (.int .i64 l) := K2.cell 1
        have a2 : w2.cell? ⟨w.heap.size, 2, none⟩ = some (.int .i64 m) := K2.cell 2
        have a3 : w2.cell? ⟨w.heap.size, 3, none⟩ = some (.slice A' P.length c') := K2.cell 3
        have a4 : w2.cell? ⟨w.heap.size, 4, none⟩ = some (.int .i64 b) := K2.cell 4
        have a5 : w2.cell? ⟨w.heap.size, 5, none⟩ = some (.int .i64 t') := K2.cell 5
        go_wp2_with fail
        refine ((unhide CE) _).mono ?_; rintro e w3 ⟨rfl, hb⟩
        have K3 := K2.below hb K2.lt
        have P3 := P2.below hb
        have Q3 := Q2.below hb
        have W3 := own_below W2 hb
        have H3 := H2.below hb
        have G3 := grown_more G2 hb
        clear K2 P2 Q2 W2 H2 G2 hb a0 a1 a2 a3 a4 a5
        go_wp2_with (at_builtin; refine wpList_append_any _ rfl _ _ _ rfl w.heap.size 3 i0 (.int .i64 0) 1 8 Try.underlying38 hi0 hz0 hz1 hz3 (by rfl) (by decide) (.slice Aw xs.length cw) xs.length (ivals xs) rfl (W3.alloc _) _ _ 1 1 [.int .i64 (Sx.two l + 1)] rfl (reads_one _ _ _) (by simp [Value.oneCell']) (by simp only [maxLen]; omega) (by omega) (by have := G3.size; simp; omega) ?_; intro v' w9 hown9 hg9 _; have BY : Below w3.heap.size w3 (w3.alloc (.cells #[.int .i64 (Sx.two l + 1)] 3)) := (Below.refl _ _).alloc (Nat.le_refl _) _; have WY := W3.alloc (.cells #[.int .i64 (Sx.two l + 1)] 3); have K9 := blk_other (K3.alloc (.cells #[.int .i64 (Sx.two l + 1)] 3)) WY hg9 (by decide); have P9 := (P3.below BY).other WY hg9 (by decide); have Q9 := (Q3.below BY).other WY hg9 (by decide); have H9 := (H3.below BY).row WY hg9 (by decide) (by have := H3.1; have := H3.lt; omega); have G9 := grown_row (grown_more G3 BY) WY hg9 (Nat.le_refl _); have W9 := own_nodup hown9; obtain ⟨Aw2, cw2, rfl⟩ := own_shapeN W9; clear WY BY hown9 hg9; clear K3 P3 Q3 W3 H3 G3)
        go_ret
        exact ⟨Aw2, cw2, xs ++ [Sx.two l + 1], (by rw [hw1]; rfl), by omega, by rw [hw1]; exact own_ints W9, Q9, ⟨_, by omega, H9⟩, G9⟩
      · have eu : ¬ (0 : Int) < u := hu
        go_wp2_with fail
        go_ret
        exact ⟨Aw, cw, xs, rfl, by omega, W2, Q2, ⟨_, by omega, H2⟩, G2⟩

end Go.Proofs.Ytegfcpdkehgdpaa

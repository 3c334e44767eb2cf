/- The walk of what is drawn as known. Conditions: a reader at fewer than 8000000 picks. -/
import Derived.Test.YtegfcpdkehgdpaaDk1
import Derived.Test.YtegfcpdkehgdpaaAf6
import Derived.Test.YtegfcpdkehgdpaaKS
import Derived.Test.YtegfcpdkehgdpaaCx
import Derived.Test.YtegfcpdkehgdpaaRf
namespace Go.Proofs.Ytegfcpdkehgdpaa
open Go.RowKit

theorem Rd.blk {w : World} {B g p : Nat} (h : Rd w B g p) : ∃ cs, Blk w g 99 cs := by
  obtain ⟨_, A, n, c, _, _, hg⟩ := h
  exact ⟨_, hg⟩
/-- Whatever else is stored into keeps the reader. -/
theorem Rd.only {w w' : World} {B g p b : Nat} (h : Rd w B g p) (hg : w.grownBy w' (some b)) (hne : g ≠ b) (hB : B ≤ b) : Rd w' B g p := by
  have h1 := h.1
  have h2 := h.lt
  exact h.keep (hg.block g h2 (fun e => hne (by injection e))) fun k hk => hg.block k (by omega) (fun e => by injection e with e; omega)
theorem OwnP.rd {w w' : World} {base B g p : Nat} {A : Option Addr} {ps : List (Int × Int)} (h : OwnP w base A ps) (hr : Rd w B g p) (hg : w.grownBy w' (some g)) : OwnP w' base A ps := by
  obtain ⟨cs, hb⟩ := hr.blk
  exact h.only hg hb (by decide)
theorem Blk.rd {w w' : World} {B g p k : Nat} {t : TypeId} {cs : Array Value} (h : Blk w k t cs) (hr : Rd w B g p) (hg : w.grownBy w' (some g)) (hne : t ≠ 99) : Blk w' k t cs := by
  obtain ⟨cs', hb⟩ := hr.blk
  exact blkG h hg (fun e => by subst e; exact Blk.ne_ h hb hne rfl)
theorem only6r {a w : World} {g b : Nat} (h : a.grownBy w (some g)) (hb : a.heap.size ≤ b) (x0 x1 x2 x3 x4 x5 : Value) : a.grownBy ((((((w.setCell ⟨b, 0, none⟩ x0).setCell ⟨b, 1, none⟩ x1).setCell ⟨b, 2, none⟩ x2).setCell ⟨b, 3, none⟩ x3).setCell ⟨b, 4, none⟩ x4).setCell ⟨b, 5, none⟩ x5) (some g) :=
  only_setCell (only_setCell (only_setCell (only_setCell (only_setCell (only_setCell h (p := ⟨b, 0, none⟩) (.inr hb) x0) (p := ⟨b, 1, none⟩) (.inr hb) x1) (p := ⟨b, 2, none⟩) (.inr hb) x2) (p := ⟨b, 3, none⟩) (.inr hb) x3) (p := ⟨b, 4, none⟩) (.inr hb) x4) (p := ⟨b, 5, none⟩) (.inr hb) x5
theorem Sx.step_len (l m : Int) (ps : List (Int × Int)) (b t x : Int) : (Sx.stepP l m ps b t x).length ≤ ps.length + 1 := Sx.adv_len l m ps b t x _
theorem Sx.advT_word {l m t x : Int} {n : Nat} (h : Sx.canB l m n t x = true) : Sx.advT l x = x := if_neg (by
  rintro rfl
  rw [Sx.can_mk] at h; simp at h)
theorem Sx.can_nonneg {l m t x : Int} {n : Nat} (h : Sx.canB l m n t x = true) : 0 ≤ x := by
  rw [Sx.can_mk] at h
  simp only [Sx.folB, Bool.and_eq_true, decide_eq_true_iff] at h
  exact h.1.1.1
theorem Sx.clear_ok {o l m b t : Int} {ps : List (Int × Int)} (h : Sx.kOK o l m ps b t = true) : Sx.kOK o l m (ps.take b.toNat) b (-1) = true := by
  have := Sx.step_ok (x := Sx.two l) h (by simp [Sx.goB])
  rw [show Sx.stepP l m ps b t (Sx.two l) = ps.take b.toNat from (Sx.adv_clear rfl).1, show Sx.advT l (Sx.two l) = -1 from if_pos rfl] at this
  exact this
theorem Sx.base_ok {o l m t b b' : Int} {ps : List (Int × Int)} (h : Sx.kOK o l m ps b' t = true) (ht : t = -1 → ps = []) (h0 : 0 ≤ b) (h1 : b ≤ (ps.length : Int)) : Sx.kOK o l m ps b t = true := by
  obtain ⟨k0, k1, _, k3, k4⟩ := Sx.kOK_of h
  refine Sx.kOK_mk k0 k1 ⟨h0, h1⟩ k3 (k4.imp id fun h => ⟨h.1, ?_⟩)
  have := ht h.1
  subst this
  simp at h1 ⊢; omega
theorem Sx.start_ok' {o l m : Int} (h : Sx.setOK o l m = true) : Sx.kOK o l m [] 0 (-1) = true := by
  have hb := Sx.setOK_bd h
  have h1 := Sx.two_step (a := l) (b := m) (by omega) (by omega)
  have h2 := Sx.two_pos l
  rw [Sx.kOK_last h (by simp only [List.length_nil]; omega) (by simp) (by simp [Sx.pairsOK])]
  simp
/-- Something known, drawn. -/
def DrawnK (B g p d base : Nat) (w : World) (e : Ending) (w' : World) : Prop :=
  ∃ (o l m : Int) (A : Option Addr) (c : Nat) (b t : Int) (ps : List (Int × Int)), e = .returned (kv o l m A ps.length c b t) ∧ Sx.kOK o l m ps b t = true ∧ ps.length ≤ 100 ∧ ps.length ≤ c ∧ OwnP w' base A ps ∧ RdPost B g p d w w'
theorem drawn_mk {B g p d base p' : Nat} {w w' : World} {o l m : Int} {A : Option Addr} {c : Nat} {b t : Int} {ps : List (Int × Int)} {n : Nat} (hn : n = ps.length) (h1 : Sx.kOK o l m ps b t = true) (h2 : ps.length ≤ 100) (h3 : ps.length ≤ c) (h4 : OwnP w' base A ps) (h5 : Rd w' B g p') (h6 : w.grownBy w' (some g)) (h7 : p' ≤ p + d) :
    DrawnK B g p d base w (.returned (kv o l m A n c b t)) w' := by subst hn; exact ⟨o, l, m, A, c, b, t, ps, rfl, h1, h2, h3, h4, ⟨p', h7, h5⟩, h6⟩

set_option maxRecDepth 100000 in
set_option maxHeartbeats 2000000 in
theorem rd_l2Draw (B g p : Nat) (w : World) (h : Rd w B g p) (hp : p ≤ 8000000) :
    Calls Try.prog 83 #[.pointer (some ⟨g, 0, none⟩)] w (DrawnK B g p 100 w.heap.size w) := by
  have hlt := h.lt
  have hne : w.heap.size ≠ g := by omega
  have B0 : Below w.heap.size w (w.alloc (.cells #[.int .i64 0, .int .i64 0, .int .i64 0, .slice none 0 0, .int .i64 0, .int .i64 0] 31)) := (Below.refl _ _).alloc (Nat.le_refl _) _
  have H0 := h.below B0
  have G0 := below_grownBy B0 (some g)
  have R0 := Blk.new w 31 #[.int .i64 0, .int .i64 0, .int .i64 0, .slice none 0 0, .int .i64 0, .int .i64 0]
  clear h B0
  go_enter Try.func83, Try.ntmps83
  go_wp2_with fail
  refine (rd_some B g p _ H0 (by omega)).mono ?_; rintro e w1 ⟨o, l, m, rfl, hok, p1, hp1, H1, hg1⟩
  have R1 := R0.rd H0 hg1 (by decide)
  have G1 := grown_trans' G0 hg1
  have CS := fun wx => spec_Start o l m wx
  rw [hok, start_yes hok] at CS
  have CS := hide CS
  have HK0 := hide (show Sx.kOK o l m [] 0 (-1) = true from (Sx.start_ok' hok))
  clear H0 G0 R0 hg1
  go_wp2_with fail
  refine ((unhide CS) _).mono ?_; rintro e w2 ⟨rfl, hb⟩
  have R2 := R1.below hb R1.lt
  have H2 := H1.below hb
  have G2 := grown_more G1 hb
  have hs2 := R2.lt
  have hg2 := H2.lt
  obtain ⟨bk, hbk⟩ : ∃ x, x = w2.heap.size := ⟨_, rfl⟩
  have BX : Below w2.heap.size w2 (w2.alloc (.cells #[.int .i64 o, .int .i64 l, .int .i64 m, .slice none 0 0, .int .i64 0, .int .i64 (-1)] 31)) := (Below.refl _ _).alloc (Nat.le_refl _) _
  have K3 := Blk.new w2 31 #[.int .i64 o, .int .i64 l, .int .i64 m, .slice none 0 0, .int .i64 0, .int .i64 (-1)]
  have R3 := R2.below BX hs2
  have H3 := H2.below BX
  have G3 := grown_more G2 BX
  rw [← hbk] at hs2 hg2 K3
  clear R1 H1 G1 hb R2 H2 G2 BX CS
  go_wp2_with fail
  refine (rd_pick B g _ 14 _ H3 (by omega) (by omega) (by omega)).mono ?_; rintro e w4 ⟨v0, rfl, v00, v01, _, H0, hg4⟩
  have v01 := v01 (by omega)
  have R0 := R3.rd H3 hg4 (by decide)
  have K0 := K3.rd H3 hg4 (by decide)
  have G0 := grown_trans' G3 hg4
  have P0 : OwnP w4 w.heap.size none [] := .inl rfl
  obtain ⟨v, rfl⟩ := Int.eq_ofNat_of_zero_le v00
  clear R3 K3 H3 G3 hg4
  rw [← hbk]
  clear hbk
  go_wp2_with fail
  go_loopw [5] (fun s5 wr => ∃ (v : Nat) (A : Option Addr) (c : Nat) (t : Int) (ps : List (Int × Int)) (pq : Nat), s5 = .int .i64 v ∧ v ≤ 13 ∧ ps.length + v ≤ 13 ∧ pq + 4 * v ≤ p + 5 + 1 + 52 ∧ (t = -1 → ps = []) ∧ Hid (Sx.kOK o l m ps 0 t = true) ∧ ps.length ≤ c ∧ Blk wr w.heap.size 31 #[.int .i64 0, .int .i64 0, .int .i64 0, .slice none 0 0, .int .i64 0, .int .i64 0] ∧ Blk wr bk 31 #[.int .i64 o, .int .i64 l, .int .i64 m, .slice A ps.length c, .int .i64 0, .int .i64 t] ∧ OwnP wr w.heap.size A ps ∧ Rd wr B g pq ∧ w.grownBy wr (some g)) (fun s5 _ => (intOf s5).toNat)
  case atStart => exact ⟨v, none, 0, -1, [], _, rfl, by omega, by simp; omega, by omega, fun _ => rfl, HK0, Nat.le_refl _, R0, K0, P0, H0, G0⟩
  case round =>
    obtain ⟨v, A, c, t, ps, pq, rfl, hv, hlv, hpq, htn, HK, hcap, R1, K1, P1, H1, G1⟩ := hrel
    obtain ⟨n0, n1, n2, n3, n4, n5⟩ := Sx.kOK_nums HK.out
    clear R0 K0 P0 H0 G0
    by_cases hv0 : 0 < v
    · have hvI : (0 : Int) < (v : Int) := by omega
      have e7 : IntKind.i64.wrap ((v : Int) - 1) = ((v - 1 : Nat) : Int) := by rw [IntWalk.i64_in _ (by omega)]; omega
      have e8 : (v : Int) - 1 = ((v - 1 : Nat) : Int) := by omega
      have s5 : wr.drew.cell? ⟨bk, 0, none⟩ = some (.int .i64 o) ∧ wr.drew.cell? ⟨bk, 1, none⟩ = some (.int .i64 l) ∧ wr.drew.cell? ⟨bk, 2, none⟩ = some (.int .i64 m) ∧ wr.drew.cell? ⟨bk, 3, none⟩ = some (.slice A ps.length c) ∧ wr.drew.cell? ⟨bk, 4, none⟩ = some (.int .i64 0) ∧ wr.drew.cell? ⟨bk, 5, none⟩ = some (.int .i64 t) := ⟨K1.cell 0, K1.cell 1, K1.cell 2, K1.cell 3, K1.cell 4, K1.cell 5⟩
      go_wp2_with fail
      refine wp_region_final_drew (S := (fun W => W.cell? ⟨bk, 0, none⟩ = some (.int .i64 o) ∧ W.cell? ⟨bk, 1, none⟩ = some (.int .i64 l) ∧ W.cell? ⟨bk, 2, none⟩ = some (.int .i64 m) ∧ W.cell? ⟨bk, 3, none⟩ = some (.slice A ps.length c) ∧ W.cell? ⟨bk, 4, none⟩ = some (.int .i64 0) ∧ W.cell? ⟨bk, 5, none⟩ = some (.int .i64 t))) 5 (by kernel_rfl) (by first | assumption | exact s5) (fun hHeld => ?_)
      refine wpAnyF_take (i := 0) (oi := { dst := some 18, op := Op.load 31 (Operand.tmp 3), type := 31, pos := "l2_words.go:367", after := #[], guard := none }) (v := ?_) rfl (by kernel_rfl) (by kernel_rfl) (by kernel_rfl) (by kernel_rfl) (fun _ _ _ h => h) (Or.inl ⟨by rfl, ?_⟩) (by assumption) ?_; rotate_left
      · intro W hW; (try dsimp only at hW); go_simp;  try (with_reducible rfl)
      try simp only [Act.put, List.setIfInBounds_toArray, List.set_cons_zero, List.set_cons_succ]
      refine wpAnyF_take (i := 1) (oi := { dst := some 19, op := Op.move (Operand.tmp 0), type := 82, pos := "l2_words.go:367", after := #[], guard := none }) (v := ?_) rfl (by kernel_rfl) (by kernel_rfl) (by kernel_rfl) (by kernel_rfl) (fun _ _ _ h => h) (Or.inl ⟨by rfl, ?_⟩) (by assumption) ?_; rotate_left
      · intro W hW; (try dsimp only at hW); go_simp;  try (with_reducible rfl)
      try simp only [Act.put, List.setIfInBounds_toArray, List.set_cons_zero, List.set_cons_succ]
      refine wpAnyF_take (i := 2) (oi := { dst := some 20, op := Op.load 31 (Operand.tmp 3), type := 31, pos := "l2_words.go:367", after := #[], guard := none }) (v := ?_) rfl (by kernel_rfl) (by kernel_rfl) (by kernel_rfl) (by kernel_rfl) (fun _ _ _ h => h) (Or.inl ⟨by rfl, ?_⟩) (by assumption) ?_; rotate_left
      · intro W hW; (try dsimp only at hW); go_simp;  try (with_reducible rfl)
      try simp only [Act.put, List.setIfInBounds_toArray, List.set_cons_zero, List.set_cons_succ]
      refine wpAnyF_ready (rs := [3]) (by kernel_rfl) (by simp) (AllReadyF.cons (i := 3) (o := { dst := some 21, op := Op.call { callee := Callee.value (Operand.func 84), args := #[Operand.tmp 19, Operand.tmp 20], argTypes := #[82, 31] }, type := 3, pos := "l2_words.go:367", after := #[{ on := 1, ground := Ground.data }, { on := 2, ground := Ground.data }], guard := none }) rfl (fun K hK => ?_) AllReadyF.nil)
      go_simp
      refine (rd_l2Pick B g pq o l m A ps.length c 0 t _ H1.drew (by omega) n0 n1 (by omega) n3 (by omega)).mono ?_; rintro e y1 ⟨x, rfl, hcan, ⟨p2, hp2, hr2⟩, hg2⟩
      have R2 := (Blk.drew R1).rd H1.drew hg2 (by decide)
      have K2 := (Blk.drew K1).rd H1.drew hg2 (by decide)
      have P2' := (P1.below (Below.refl _ _).drew).rd H1.drew hg2
      have H2 := hr2
      have G2 := grown_trans' (only_drew G1) hg2
      have HKp : y1.cell? ⟨bk, 0, none⟩ = some (.int .i64 o) ∧ y1.cell? ⟨bk, 1, none⟩ = some (.int .i64 l) ∧ y1.cell? ⟨bk, 2, none⟩ = some (.int .i64 m) ∧ y1.cell? ⟨bk, 3, none⟩ = some (.slice A ps.length c) ∧ y1.cell? ⟨bk, 4, none⟩ = some (.int .i64 0) ∧ y1.cell? ⟨bk, 5, none⟩ = some (.int .i64 t) := ⟨K2.cell 0, K2.cell 1, K2.cell 2, K2.cell 3, K2.cell 4, K2.cell 5⟩
      try go_wp2_with fail
      refine hK.out _ _ (by (try dsimp only); first | exact HKp) (fun hHeld => ?_)
      clear hK K
      try simp only [Act.put, List.setIfInBounds_toArray, List.set_cons_zero, List.set_cons_succ]
      refine wpAnyF_ready (rs := [4]) (by kernel_rfl) (by simp) (AllReadyF.cons (i := 4) (o := { dst := some 22, op := Op.call { callee := Callee.value (Operand.func 101), args := #[Operand.tmp 18, Operand.tmp 21], argTypes := #[31, 3] }, type := 31, pos := "l2_words.go:367", after := #[{ on := 0, ground := Ground.data }, { on := 3, ground := Ground.data }, { on := 3, ground := Ground.chain }], guard := none }) rfl (fun K hK => ?_) AllReadyF.nil)
      go_simp
      have CA := spec_l2After o l m A c 0 t x ps y1 (P2'.pr (Nat.le_refl _)) HK.out hcan
      obtain ⟨P2, hP2⟩ : ∃ P2, P2 = Sx.stepP l m ps 0 t x := ⟨_, rfl⟩
      rw [← hP2] at CA
      have HK2 := Sx.step_ok HK.out (x := x) (by simp [Sx.goB, hcan])
      rw [← hP2, Sx.advT_word hcan] at HK2
      have HK2 := hide HK2
      have hl2 : P2.length ≤ ps.length + 1 := by rw [hP2]; exact Sx.step_len l m ps 0 t x
      have hx0 := Sx.can_nonneg hcan
      clear hP2
      refine CA.mono ?_; rintro e y2 ⟨A2, c2, rfl, O3, hc2, hb⟩
      have R3 := R2.below hb R2.lt
      have K3 := K2.below hb K2.lt
      have P3 := P2'.below hb
      have H3 := H2.below hb
      have G3 := grown_more G2 hb
      have O3 := O3.mono G2.size
      have HKq : y2.cell? ⟨bk, 0, none⟩ = some (.int .i64 o) ∧ y2.cell? ⟨bk, 1, none⟩ = some (.int .i64 l) ∧ y2.cell? ⟨bk, 2, none⟩ = some (.int .i64 m) ∧ y2.cell? ⟨bk, 3, none⟩ = some (.slice A ps.length c) ∧ y2.cell? ⟨bk, 4, none⟩ = some (.int .i64 0) ∧ y2.cell? ⟨bk, 5, none⟩ = some (.int .i64 t) := ⟨K3.cell 0, K3.cell 1, K3.cell 2, K3.cell 3, K3.cell 4, K3.cell 5⟩
      try go_wp2_with fail
      refine hK.out _ _ (by (try dsimp only); first | exact HKq) (fun hHeld => ?_)
      clear hK K
      try simp only [Act.put, List.setIfInBounds_toArray, List.set_cons_zero, List.set_cons_succ]
      refine wpAnyF_ready (rs := [5]) (by kernel_rfl) (by simp) (AllReadyF.last (o := { dst := none, op := Op.store 31 (Operand.tmp 3) (Operand.tmp 22), type := 0, pos := "l2_words.go:367", after := #[{ on := 4, ground := Ground.data }, { on := 4, ground := Ground.chain }, { on := 0, ground := Ground.phase }, { on := 1, ground := Ground.phase }, { on := 2, ground := Ground.phase }, { on := 3, ground := Ground.phase }, { on := 4, ground := Ground.phase }], guard := none }) rfl (fun K hK => ?_))
      have a0 : y2.cell? ⟨bk, 0, none⟩ = some (.int .i64 o) := K3.cell 0
      have a1 : y2.cell? ⟨bk, 1, none⟩ = some (.int .i64 l) := K3.cell 1
      have a2 : y2.cell? ⟨bk, 2, none⟩ = some (.int .i64 m) := K3.cell 2
      have a3 : y2.cell? ⟨bk, 3, none⟩ = some (.slice A ps.length c) := K3.cell 3
      have a4 : y2.cell? ⟨bk, 4, none⟩ = some (.int .i64 0) := K3.cell 4
      have a5 : y2.cell? ⟨bk, 5, none⟩ = some (.int .i64 t) := K3.cell 5
      have fa0 := K3.frozen 0
      have fa1 := K3.frozen 1
      have fa2 := K3.frozen 2
      have fa3 := K3.frozen 3
      have fa4 := K3.frozen 4
      have fa5 := K3.frozen 5
      have K4 := blk6_set K3 (.int .i64 o) (.int .i64 l) (.int .i64 m) (.slice A2 P2.length c2) (.int .i64 0) (.int .i64 x)
      have HG := hide (only6 y2 bk (.int .i64 o) (.int .i64 l) (.int .i64 m) (.slice A2 P2.length c2) (.int .i64 0) (.int .i64 x))
      have R4 := R3.far6 (g := bk) (by omega) (.int .i64 o) (.int .i64 l) (.int .i64 m) (.slice A2 P2.length c2) (.int .i64 0) (.int .i64 x)
      have P4 := O3.only HG.out K3 (by decide)
      have H4 := H3.only HG.out (by omega) (by have := H3.1; omega)
      have G4 := only6r G3 (by omega : w.heap.size ≤ bk) (.int .i64 o) (.int .i64 l) (.int .i64 m) (.slice A2 P2.length c2) (.int .i64 0) (.int .i64 x)
      go_simp
      clear a0 a1 a2 a3 a4 a5 fa0 fa1 fa2 fa3 fa4 fa5 hHeld HKp HKq K3 R3 P3 H3 G3 O3 K2 R2 P2' H2 G2 K1 R1 P1 H1 G1 HG
      refine hK.out _ _ ?_
      clear hK K
      try simp only [Act.put, List.setIfInBounds_toArray, List.set_cons_zero, List.set_cons_succ]
      refine wpAnyF_done (by kernel_rfl) ?_ _
      go_wp2_with fail
      go_roundw
      case rel => exact ⟨v - 1, A2, c2, x, P2, p2, by first | rfl | (rw [e8]) | (simp; omega), by omega, by omega, by omega, fun h => by omega, HK2, hc2, R4, K4, P4, H4, G4⟩
      case measure => simp [intOf]; omega
    · obtain rfl : v = 0 := by omega
      have hl1 : ps.length ≤ 100 := by omega
      have hn1 : ps.length ≤ 1024 := by omega
      go_wp2_with fail
      refine (rd_pick B g pq 5 _ H1 (by omega) (by omega) (by omega)).mono ?_; rintro e w6 ⟨u, rfl, u0, u1, _, hr6, hg6⟩
      have R6 := R1.rd H1 hg6 (by decide)
      have K6 := K1.rd H1 hg6 (by decide)
      have P6 := P1.rd H1 hg6
      have H6 := hr6
      have G6 := grown_trans' G1 hg6
      clear R1 K1 P1 H1 G1 hr6 hg6
      by_cases hu6 : u = 0
      · have eu6 : (u == 0) = true := by rw [hu6]; rfl
        have e9 : IntKind.i64.wrap ((ps.length : Int) + 1) = (ps.length : Int) + 1 := IntWalk.i64_in _ (by omega)
        have a0 : w6.cell? ⟨bk, 0, none⟩ = some (.int .i64 o) := K6.cell 0
        have a1 : w6.cell? ⟨bk, 1, none⟩ = some (.int .i64 l) := K6.cell 1
        have a2 : w6.cell? ⟨bk, 2, none⟩ = some (.int .i64 m) := K6.cell 2
        have a3 : w6.cell? ⟨bk, 3, none⟩ = some (.slice A ps.length c) := K6.cell 3
        have a4 : w6.cell? ⟨bk, 4, none⟩ = some (.int .i64 0) := K6.cell 4
        have a5 : w6.cell? ⟨bk, 5, none⟩ = some (.int .i64 t) := K6.cell 5
        go_wp2_with fail
        refine (rd_pick B g _ ((ps.length : Int) + 1) _ H6 (by omega) (by omega) (by omega)).mono ?_; rintro e w7 ⟨b, rfl, b0, b1, _, hr7, hg7⟩
        have b1 := b1 (by omega)
        have R7 := R6.rd H6 hg7 (by decide)
        have K7 := K6.rd H6 hg7 (by decide)
        have P7 := P6.rd H6 hg7
        have H7 := hr7
        have G7 := grown_trans' G6 hg7
        clear R6 K6 P6 H6 G6 hr7 hg7 a0 a1 a2 a3 a4 a5
        have HB := hide (Sx.base_ok HK.out htn b0 (by omega))
        have HBb0 := b0
        have HBb1 : b ≤ (ps.length : Int) := by omega
        have a4 : w7.cell? ⟨bk, 4, none⟩ = some (.int .i64 0) := K7.cell 4
        have fa4 := K7.frozen 4
        have K9 := K7.set_ 4 (.int .i64 b)
        have HG := hide (only_one w7 bk 4 (.int .i64 b))
        have R9 := R7.far (p := ⟨bk, 4, none⟩) (by simp; omega) (.int .i64 b)
        have P9 := P7.only HG.out K7 (by decide)
        have H9 := H7.only HG.out (by omega) (by have := H7.1; omega)
        have G9 := only_setCell G7 (p := ⟨bk, 4, none⟩) (.inr (by omega : w.heap.size ≤ bk)) (.int .i64 b)
        clear K7 R7 P7 H7 G7 HG
        go_wp2_with fail
        refine (rd_pick B g _ 5 _ H9 (by omega) (by omega) (by omega)).mono ?_; rintro e w8 ⟨u, rfl, u0, u1, _, hr8, hg8⟩
        have R8 := R9.rd H9 hg8 (by decide)
        have K8 := K9.rd H9 hg8 (by decide)
        have P8 := P9.rd H9 hg8
        have H8 := hr8
        have G8 := grown_trans' G9 hg8
        clear R9 K9 P9 H9 G9 hr8 hg8
        by_cases hu : u = 0
        · have eu : (u == 0) = true := by rw [hu]; rfl
          have CL := hide (fun w2 (hp : PR w2 w2.heap.size A ps) => spec_l2Cleared o l m A c b t ps w2 hp hn1 HBb0 HBb1 hcap)
          obtain ⟨P2, hP2⟩ : ∃ P2, P2 = ps.take (b : Int).toNat := ⟨_, rfl⟩
          have CL := CL.out
          rw [← hP2] at CL
          have CL := hide CL
          have HK2 := hide (show Sx.kOK o l m P2 b (-1) = true by rw [hP2]; exact Sx.clear_ok HB.out)
          have hl2 : P2.length ≤ 100 := by rw [hP2, List.length_take]; omega
          clear hP2 hu
          have a0 : w8.cell? ⟨bk, 0, none⟩ = some (.int .i64 o) := K8.cell 0
          have a1 : w8.cell? ⟨bk, 1, none⟩ = some (.int .i64 l) := K8.cell 1
          have a2 : w8.cell? ⟨bk, 2, none⟩ = some (.int .i64 m) := K8.cell 2
          have a3 : w8.cell? ⟨bk, 3, none⟩ = some (.slice A ps.length c) := K8.cell 3
          have a4 : w8.cell? ⟨bk, 4, none⟩ = some (.int .i64 b) := K8.cell 4
          have a5 : w8.cell? ⟨bk, 5, none⟩ = some (.int .i64 t) := K8.cell 5
          go_wp2_with fail
          refine ((unhide CL) _ (P8.pr (Nat.le_refl _))).mono ?_; rintro e w9 ⟨A2, c2, rfl, O9, hc2, hb⟩
          have s9 := G8.size
          have R9 := R8.below hb R8.lt
          have K9 := K8.below hb K8.lt
          have P9 := P8.below hb
          have H9 := H8.below hb
          have G9 := grown_more G8 hb
          have O9 := O9.mono (Nat.le_trans G8.size (Nat.le_refl _))
          clear R8 K8 P8 H8 G8 hb a0 a1 a2 a3 a4 a5
          have a0 : w9.cell? ⟨bk, 0, none⟩ = some (.int .i64 o) := K9.cell 0
          have a1 : w9.cell? ⟨bk, 1, none⟩ = some (.int .i64 l) := K9.cell 1
          have a2 : w9.cell? ⟨bk, 2, none⟩ = some (.int .i64 m) := K9.cell 2
          have a3 : w9.cell? ⟨bk, 3, none⟩ = some (.slice A ps.length c) := K9.cell 3
          have a4 : w9.cell? ⟨bk, 4, none⟩ = some (.int .i64 b) := K9.cell 4
          have a5 : w9.cell? ⟨bk, 5, none⟩ = some (.int .i64 t) := K9.cell 5
          have fa0 := K9.frozen 0
          have fa1 := K9.frozen 1
          have fa2 := K9.frozen 2
          have fa3 := K9.frozen 3
          have fa4 := K9.frozen 4
          have fa5 := K9.frozen 5
          have K10 := blk6_set K9 (.int .i64 o) (.int .i64 l) (.int .i64 m) (.slice A2 P2.length c2) (.int .i64 b) (.int .i64 (-1))
          have HG := hide (only6 w9 bk (.int .i64 o) (.int .i64 l) (.int .i64 m) (.slice A2 P2.length c2) (.int .i64 b) (.int .i64 (-1)))
          have R10 := R9.far6 (g := bk) (by omega) (.int .i64 o) (.int .i64 l) (.int .i64 m) (.slice A2 P2.length c2) (.int .i64 b) (.int .i64 (-1))
          have P10 := O9.only HG.out K9 (by decide)
          have H10 := H9.only HG.out (by omega) (by have := H9.1; omega)
          have G10 := only6r G9 (by omega : w.heap.size ≤ bk) (.int .i64 o) (.int .i64 l) (.int .i64 m) (.slice A2 P2.length c2) (.int .i64 b) (.int .i64 (-1))
          have a0 : ((((((w9.setCell ⟨bk, 0, none⟩ (.int .i64 o)).setCell ⟨bk, 1, none⟩ (.int .i64 l)).setCell ⟨bk, 2, none⟩ (.int .i64 m)).setCell ⟨bk, 3, none⟩ (.slice A2 P2.length c2)).setCell ⟨bk, 4, none⟩ (.int .i64 b)).setCell ⟨bk, 5, none⟩ (.int .i64 (-1))).cell? ⟨bk, 0, none⟩ = some (.int .i64 o) := K10.cell 0
          have a1 : ((((((w9.setCell ⟨bk, 0, none⟩ (.int .i64 o)).setCell ⟨bk, 1, none⟩ (.int .i64 l)).setCell ⟨bk, 2, none⟩ (.int .i64 m)).setCell ⟨bk, 3, none⟩ (.slice A2 P2.length c2)).setCell ⟨bk, 4, none⟩ (.int .i64 b)).setCell ⟨bk, 5, none⟩ (.int .i64 (-1))).cell? ⟨bk, 1, none⟩ = some (.int .i64 l) := K10.cell 1
          have a2 : ((((((w9.setCell ⟨bk, 0, none⟩ (.int .i64 o)).setCell ⟨bk, 1, none⟩ (.int .i64 l)).setCell ⟨bk, 2, none⟩ (.int .i64 m)).setCell ⟨bk, 3, none⟩ (.slice A2 P2.length c2)).setCell ⟨bk, 4, none⟩ (.int .i64 b)).setCell ⟨bk, 5, none⟩ (.int .i64 (-1))).cell? ⟨bk, 2, none⟩ = some (.int .i64 m) := K10.cell 2
          have a3 : ((((((w9.setCell ⟨bk, 0, none⟩ (.int .i64 o)).setCell ⟨bk, 1, none⟩ (.int .i64 l)).setCell ⟨bk, 2, none⟩ (.int .i64 m)).setCell ⟨bk, 3, none⟩ (.slice A2 P2.length c2)).setCell ⟨bk, 4, none⟩ (.int .i64 b)).setCell ⟨bk, 5, none⟩ (.int .i64 (-1))).cell? ⟨bk, 3, none⟩ = some (.slice A2 P2.length c2) := K10.cell 3
          have a4 : ((((((w9.setCell ⟨bk, 0, none⟩ (.int .i64 o)).setCell ⟨bk, 1, none⟩ (.int .i64 l)).setCell ⟨bk, 2, none⟩ (.int .i64 m)).setCell ⟨bk, 3, none⟩ (.slice A2 P2.length c2)).setCell ⟨bk, 4, none⟩ (.int .i64 b)).setCell ⟨bk, 5, none⟩ (.int .i64 (-1))).cell? ⟨bk, 4, none⟩ = some (.int .i64 b) := K10.cell 4
          have a5 : ((((((w9.setCell ⟨bk, 0, none⟩ (.int .i64 o)).setCell ⟨bk, 1, none⟩ (.int .i64 l)).setCell ⟨bk, 2, none⟩ (.int .i64 m)).setCell ⟨bk, 3, none⟩ (.slice A2 P2.length c2)).setCell ⟨bk, 4, none⟩ (.int .i64 b)).setCell ⟨bk, 5, none⟩ (.int .i64 (-1))).cell? ⟨bk, 5, none⟩ = some (.int .i64 (-1)) := K10.cell 5
          have r0 : ((((((w9.setCell ⟨bk, 0, none⟩ (.int .i64 o)).setCell ⟨bk, 1, none⟩ (.int .i64 l)).setCell ⟨bk, 2, none⟩ (.int .i64 m)).setCell ⟨bk, 3, none⟩ (.slice A2 P2.length c2)).setCell ⟨bk, 4, none⟩ (.int .i64 b)).setCell ⟨bk, 5, none⟩ (.int .i64 (-1))).cell? ⟨w.heap.size, 0, none⟩ = some (.int .i64 0) := R10.cell 0
          have r1 : ((((((w9.setCell ⟨bk, 0, none⟩ (.int .i64 o)).setCell ⟨bk, 1, none⟩ (.int .i64 l)).setCell ⟨bk, 2, none⟩ (.int .i64 m)).setCell ⟨bk, 3, none⟩ (.slice A2 P2.length c2)).setCell ⟨bk, 4, none⟩ (.int .i64 b)).setCell ⟨bk, 5, none⟩ (.int .i64 (-1))).cell? ⟨w.heap.size, 1, none⟩ = some (.int .i64 0) := R10.cell 1
          have r2 : ((((((w9.setCell ⟨bk, 0, none⟩ (.int .i64 o)).setCell ⟨bk, 1, none⟩ (.int .i64 l)).setCell ⟨bk, 2, none⟩ (.int .i64 m)).setCell ⟨bk, 3, none⟩ (.slice A2 P2.length c2)).setCell ⟨bk, 4, none⟩ (.int .i64 b)).setCell ⟨bk, 5, none⟩ (.int .i64 (-1))).cell? ⟨w.heap.size, 2, none⟩ = some (.int .i64 0) := R10.cell 2
          have r3 : ((((((w9.setCell ⟨bk, 0, none⟩ (.int .i64 o)).setCell ⟨bk, 1, none⟩ (.int .i64 l)).setCell ⟨bk, 2, none⟩ (.int .i64 m)).setCell ⟨bk, 3, none⟩ (.slice A2 P2.length c2)).setCell ⟨bk, 4, none⟩ (.int .i64 b)).setCell ⟨bk, 5, none⟩ (.int .i64 (-1))).cell? ⟨w.heap.size, 3, none⟩ = some (.slice none 0 0) := R10.cell 3
          have r4 : ((((((w9.setCell ⟨bk, 0, none⟩ (.int .i64 o)).setCell ⟨bk, 1, none⟩ (.int .i64 l)).setCell ⟨bk, 2, none⟩ (.int .i64 m)).setCell ⟨bk, 3, none⟩ (.slice A2 P2.length c2)).setCell ⟨bk, 4, none⟩ (.int .i64 b)).setCell ⟨bk, 5, none⟩ (.int .i64 (-1))).cell? ⟨w.heap.size, 4, none⟩ = some (.int .i64 0) := R10.cell 4
          have r5 : ((((((w9.setCell ⟨bk, 0, none⟩ (.int .i64 o)).setCell ⟨bk, 1, none⟩ (.int .i64 l)).setCell ⟨bk, 2, none⟩ (.int .i64 m)).setCell ⟨bk, 3, none⟩ (.slice A2 P2.length c2)).setCell ⟨bk, 4, none⟩ (.int .i64 b)).setCell ⟨bk, 5, none⟩ (.int .i64 (-1))).cell? ⟨w.heap.size, 5, none⟩ = some (.int .i64 0) := R10.cell 5
          have fr0 := R10.frozen 0
          have fr1 := R10.frozen 1
          have fr2 := R10.frozen 2
          have fr3 := R10.frozen 3
          have fr4 := R10.frozen 4
          have fr5 := R10.frozen 5
          go_wp2_with fail
          have q := blk6_set R10 (.int .i64 o) (.int .i64 l) (.int .i64 m) (.slice A2 P2.length c2) (.int .i64 b) (.int .i64 (-1))
          have PF := P10.only (only6 ((((((w9.setCell ⟨bk, 0, none⟩ (.int .i64 o)).setCell ⟨bk, 1, none⟩ (.int .i64 l)).setCell ⟨bk, 2, none⟩ (.int .i64 m)).setCell ⟨bk, 3, none⟩ (.slice A2 P2.length c2)).setCell ⟨bk, 4, none⟩ (.int .i64 b)).setCell ⟨bk, 5, none⟩ (.int .i64 (-1))) w.heap.size (.int .i64 o) (.int .i64 l) (.int .i64 m) (.slice A2 P2.length c2) (.int .i64 b) (.int .i64 (-1))) R10 (by decide)
          have HF := H10.only (only6 ((((((w9.setCell ⟨bk, 0, none⟩ (.int .i64 o)).setCell ⟨bk, 1, none⟩ (.int .i64 l)).setCell ⟨bk, 2, none⟩ (.int .i64 m)).setCell ⟨bk, 3, none⟩ (.slice A2 P2.length c2)).setCell ⟨bk, 4, none⟩ (.int .i64 b)).setCell ⟨bk, 5, none⟩ (.int .i64 (-1))) w.heap.size (.int .i64 o) (.int .i64 l) (.int .i64 m) (.slice A2 P2.length c2) (.int .i64 b) (.int .i64 (-1))) (by omega) (by have := H10.1; omega)
          have GF := only6r G10 (Nat.le_refl w.heap.size) (.int .i64 o) (.int .i64 l) (.int .i64 m) (.slice A2 P2.length c2) (.int .i64 b) (.int .i64 (-1))
          have q0 := q.cell 0
          have q1 := q.cell 1
          have q2 := q.cell 2
          have q3 := q.cell 3
          have q4 := q.cell 4
          have q5 := q.cell 5
          exact bodyPost_ret (v := kv o l m A2 P2.length c2 b (-1)) (by simp [results, Try.results83, go_sem, q0, q1, q2, q3, q4, q5]) rfl (drawn_mk rfl HK2.out hl2 hc2 PF HF GF (by omega))
        · have eu : (u == 0) = false := by rw [beq_eq_false_iff_ne]; exact hu
          have a0 : w8.cell? ⟨bk, 0, none⟩ = some (.int .i64 o) := K8.cell 0
          have a1 : w8.cell? ⟨bk, 1, none⟩ = some (.int .i64 l) := K8.cell 1
          have a2 : w8.cell? ⟨bk, 2, none⟩ = some (.int .i64 m) := K8.cell 2
          have a3 : w8.cell? ⟨bk, 3, none⟩ = some (.slice A ps.length c) := K8.cell 3
          have a4 : w8.cell? ⟨bk, 4, none⟩ = some (.int .i64 b) := K8.cell 4
          have a5 : w8.cell? ⟨bk, 5, none⟩ = some (.int .i64 t) := K8.cell 5
          have r0 : w8.cell? ⟨w.heap.size, 0, none⟩ = some (.int .i64 0) := R8.cell 0
          have r1 : w8.cell? ⟨w.heap.size, 1, none⟩ = some (.int .i64 0) := R8.cell 1
          have r2 : w8.cell? ⟨w.heap.size, 2, none⟩ = some (.int .i64 0) := R8.cell 2
          have r3 : w8.cell? ⟨w.heap.size, 3, none⟩ = some (.slice none 0 0) := R8.cell 3
          have r4 : w8.cell? ⟨w.heap.size, 4, none⟩ = some (.int .i64 0) := R8.cell 4
          have r5 : w8.cell? ⟨w.heap.size, 5, none⟩ = some (.int .i64 0) := R8.cell 5
          have fr0 := R8.frozen 0
          have fr1 := R8.frozen 1
          have fr2 := R8.frozen 2
          have fr3 := R8.frozen 3
          have fr4 := R8.frozen 4
          have fr5 := R8.frozen 5
          go_wp2_with fail
          have q := blk6_set R8 (.int .i64 o) (.int .i64 l) (.int .i64 m) (.slice A ps.length c) (.int .i64 b) (.int .i64 t)
          have PF := P8.only (only6 w8 w.heap.size (.int .i64 o) (.int .i64 l) (.int .i64 m) (.slice A ps.length c) (.int .i64 b) (.int .i64 t)) R8 (by decide)
          have HF := H8.only (only6 w8 w.heap.size (.int .i64 o) (.int .i64 l) (.int .i64 m) (.slice A ps.length c) (.int .i64 b) (.int .i64 t)) (by omega) (by have := H8.1; omega)
          have GF := only6r G8 (Nat.le_refl w.heap.size) (.int .i64 o) (.int .i64 l) (.int .i64 m) (.slice A ps.length c) (.int .i64 b) (.int .i64 t)
          have q0 := q.cell 0
          have q1 := q.cell 1
          have q2 := q.cell 2
          have q3 := q.cell 3
          have q4 := q.cell 4
          have q5 := q.cell 5
          exact bodyPost_ret (v := kv o l m A ps.length c b t) (by simp [results, Try.results83, go_sem, q0, q1, q2, q3, q4, q5]) rfl (drawn_mk rfl HB.out hl1 hcap PF HF GF (by omega))
      · have eu6 : (u == 0) = false := by rw [beq_eq_false_iff_ne]; exact hu6
        have HKb0 : (0 : Int) ≤ 0 := Int.le_refl _
        have HKb1 : (0 : Int) ≤ (ps.length : Int) := by omega
        go_wp2_with fail
        refine (rd_pick B g _ 5 _ H6 (by omega) (by omega) (by omega)).mono ?_; rintro e w8 ⟨u, rfl, u0, u1, _, hr8, hg8⟩
        have R8 := R6.rd H6 hg8 (by decide)
        have K8 := K6.rd H6 hg8 (by decide)
        have P8 := P6.rd H6 hg8
        have H8 := hr8
        have G8 := grown_trans' G6 hg8
        clear R6 K6 P6 H6 G6 hr8 hg8
        by_cases hu : u = 0
        · have eu : (u == 0) = true := by rw [hu]; rfl
          have CL := hide (fun w2 (hp : PR w2 w2.heap.size A ps) => spec_l2Cleared o l m A c 0 t ps w2 hp hn1 HKb0 HKb1 hcap)
          obtain ⟨P2, hP2⟩ : ∃ P2, P2 = ps.take (0 : Int).toNat := ⟨_, rfl⟩
          have CL := CL.out
          rw [← hP2] at CL
          have CL := hide CL
          have HK2 := hide (show Sx.kOK o l m P2 0 (-1) = true by rw [hP2]; exact Sx.clear_ok HK.out)
          have hl2 : P2.length ≤ 100 := by rw [hP2, List.length_take]; omega
          clear hP2 hu
          have a0 : w8.cell? ⟨bk, 0, none⟩ = some (.int .i64 o) := K8.cell 0
          have a1 : w8.cell? ⟨bk, 1, none⟩ = some (.int .i64 l) := K8.cell 1
          have a2 : w8.cell? ⟨bk, 2, none⟩ = some (.int .i64 m) := K8.cell 2
          have a3 : w8.cell? ⟨bk, 3, none⟩ = some (.slice A ps.length c) := K8.cell 3
          have a4 : w8.cell? ⟨bk, 4, none⟩ = some (.int .i64 0) := K8.cell 4
          have a5 : w8.cell? ⟨bk, 5, none⟩ = some (.int .i64 t) := K8.cell 5
          go_wp2_with fail
          refine ((unhide CL) _ (P8.pr (Nat.le_refl _))).mono ?_; rintro e w9 ⟨A2, c2, rfl, O9, hc2, hb⟩
          have s9 := G8.size
          have R9 := R8.below hb R8.lt
          have K9 := K8.below hb K8.lt
          have P9 := P8.below hb
          have H9 := H8.below hb
          have G9 := grown_more G8 hb
          have O9 := O9.mono (Nat.le_trans G8.size (Nat.le_refl _))
          clear R8 K8 P8 H8 G8 hb a0 a1 a2 a3 a4 a5
          have a0 : w9.cell? ⟨bk, 0, none⟩ = some (.int .i64 o) := K9.cell 0
          have a1 : w9.cell? ⟨bk, 1, none⟩ = some (.int .i64 l) := K9.cell 1
          have a2 : w9.cell? ⟨bk, 2, none⟩ = some (.int .i64 m) := K9.cell 2
          have a3 : w9.cell? ⟨bk, 3, none⟩ = some (.slice A ps.length c) := K9.cell 3
          have a4 : w9.cell? ⟨bk, 4, none⟩ = some (.int .i64 0) := K9.cell 4
          have a5 : w9.cell? ⟨bk, 5, none⟩ = some (.int .i64 t) := K9.cell 5
          have fa0 := K9.frozen 0
          have fa1 := K9.frozen 1
          have fa2 := K9.frozen 2
          have fa3 := K9.frozen 3
          have fa4 := K9.frozen 4
          have fa5 := K9.frozen 5
          have K10 := blk6_set K9 (.int .i64 o) (.int .i64 l) (.int .i64 m) (.slice A2 P2.length c2) (.int .i64 0) (.int .i64 (-1))
          have HG := hide (only6 w9 bk (.int .i64 o) (.int .i64 l) (.int .i64 m) (.slice A2 P2.length c2) (.int .i64 0) (.int .i64 (-1)))
          have R10 := R9.far6 (g := bk) (by omega) (.int .i64 o) (.int .i64 l) (.int .i64 m) (.slice A2 P2.length c2) (.int .i64 0) (.int .i64 (-1))
          have P10 := O9.only HG.out K9 (by decide)
          have H10 := H9.only HG.out (by omega) (by have := H9.1; omega)
          have G10 := only6r G9 (by omega : w.heap.size ≤ bk) (.int .i64 o) (.int .i64 l) (.int .i64 m) (.slice A2 P2.length c2) (.int .i64 0) (.int .i64 (-1))
          have a0 : ((((((w9.setCell ⟨bk, 0, none⟩ (.int .i64 o)).setCell ⟨bk, 1, none⟩ (.int .i64 l)).setCell ⟨bk, 2, none⟩ (.int .i64 m)).setCell ⟨bk, 3, none⟩ (.slice A2 P2.length c2)).setCell ⟨bk, 4, none⟩ (.int .i64 0)).setCell ⟨bk, 5, none⟩ (.int .i64 (-1))).cell? ⟨bk, 0, none⟩ = some (.int .i64 o) := K10.cell 0
          have a1 : ((((((w9.setCell ⟨bk, 0, none⟩ (.int .i64 o)).setCell ⟨bk, 1, none⟩ (.int .i64 l)).setCell ⟨bk, 2, none⟩ (.int .i64 m)).setCell ⟨bk, 3, none⟩ (.slice A2 P2.length c2)).setCell ⟨bk, 4, none⟩ (.int .i64 0)).setCell ⟨bk, 5, none⟩ (.int .i64 (-1))).cell? ⟨bk, 1, none⟩ = some (.int .i64 l) := K10.cell 1
          have a2 : ((((((w9.setCell ⟨bk, 0, none⟩ (.int .i64 o)).setCell ⟨bk, 1, none⟩ (.int .i64 l)).setCell ⟨bk, 2, none⟩ (.int .i64 m)).setCell ⟨bk, 3, none⟩ (.slice A2 P2.length c2)).setCell ⟨bk, 4, none⟩ (.int .i64 0)).setCell ⟨bk, 5, none⟩ (.int .i64 (-1))).cell? ⟨bk, 2, none⟩ = some (.int .i64 m) := K10.cell 2
          have a3 : ((((((w9.setCell ⟨bk, 0, none⟩ (.int .i64 o)).setCell ⟨bk, 1, none⟩ (.int .i64 l)).setCell ⟨bk, 2, none⟩ (.int .i64 m)).setCell ⟨bk, 3, none⟩ (.slice A2 P2.length c2)).setCell ⟨bk, 4, none⟩ (.int .i64 0)).setCell ⟨bk, 5, none⟩ (.int .i64 (-1))).cell? ⟨bk, 3, none⟩ = some (.slice A2 P2.length c2) := K10.cell 3
          have a4 : ((((((w9.setCell ⟨bk, 0, none⟩ (.int .i64 o)).setCell ⟨bk, 1, none⟩ (.int .i64 l)).setCell ⟨bk, 2, none⟩ (.int .i64 m)).setCell ⟨bk, 3, none⟩ (.slice A2 P2.length c2)).setCell ⟨bk, 4, none⟩ (.int .i64 0)).setCell ⟨bk, 5, none⟩ (.int .i64 (-1))).cell? ⟨bk, 4, none⟩ = some (.int .i64 0) := K10.cell 4
          have a5 : ((((((w9.setCell ⟨bk, 0, none⟩ (.int .i64 o)).setCell ⟨bk, 1, none⟩ (.int .i64 l)).setCell ⟨bk, 2, none⟩ (.int .i64 m)).setCell ⟨bk, 3, none⟩ (.slice A2 P2.length c2)).setCell ⟨bk, 4, none⟩ (.int .i64 0)).setCell ⟨bk, 5, none⟩ (.int .i64 (-1))).cell? ⟨bk, 5, none⟩ = some (.int .i64 (-1)) := K10.cell 5
          have r0 : ((((((w9.setCell ⟨bk, 0, none⟩ (.int .i64 o)).setCell ⟨bk, 1, none⟩ (.int .i64 l)).setCell ⟨bk, 2, none⟩ (.int .i64 m)).setCell ⟨bk, 3, none⟩ (.slice A2 P2.length c2)).setCell ⟨bk, 4, none⟩ (.int .i64 0)).setCell ⟨bk, 5, none⟩ (.int .i64 (-1))).cell? ⟨w.heap.size, 0, none⟩ = some (.int .i64 0) := R10.cell 0
          have r1 : ((((((w9.setCell ⟨bk, 0, none⟩ (.int .i64 o)).setCell ⟨bk, 1, none⟩ (.int .i64 l)).setCell ⟨bk, 2, none⟩ (.int .i64 m)).setCell ⟨bk, 3, none⟩ (.slice A2 P2.length c2)).setCell ⟨bk, 4, none⟩ (.int .i64 0)).setCell ⟨bk, 5, none⟩ (.int .i64 (-1))).cell? ⟨w.heap.size, 1, none⟩ = some (.int .i64 0) := R10.cell 1
          have r2 : ((((((w9.setCell ⟨bk, 0, none⟩ (.int .i64 o)).setCell ⟨bk, 1, none⟩ (.int .i64 l)).setCell ⟨bk, 2, none⟩ (.int .i64 m)).setCell ⟨bk, 3, none⟩ (.slice A2 P2.length c2)).setCell ⟨bk, 4, none⟩ (.int .i64 0)).setCell ⟨bk, 5, none⟩ (.int .i64 (-1))).cell? ⟨w.heap.size, 2, none⟩ = some (.int .i64 0) := R10.cell 2
          have r3 : ((((((w9.setCell ⟨bk, 0, none⟩ (.int .i64 o)).setCell ⟨bk, 1, none⟩ (.int .i64 l)).setCell ⟨bk, 2, none⟩ (.int .i64 m)).setCell ⟨bk, 3, none⟩ (.slice A2 P2.length c2)).setCell ⟨bk, 4, none⟩ (.int .i64 0)).setCell ⟨bk, 5, none⟩ (.int .i64 (-1))).cell? ⟨w.heap.size, 3, none⟩ = some (.slice none 0 0) := R10.cell 3
          have r4 : ((((((w9.setCell ⟨bk, 0, none⟩ (.int .i64 o)).setCell ⟨bk, 1, none⟩ (.int .i64 l)).setCell ⟨bk, 2, none⟩ (.int .i64 m)).setCell ⟨bk, 3, none⟩ (.slice A2 P2.length c2)).setCell ⟨bk, 4, none⟩ (.int .i64 0)).setCell ⟨bk, 5, none⟩ (.int .i64 (-1))).cell? ⟨w.heap.size, 4, none⟩ = some (.int .i64 0) := R10.cell 4
          have r5 : ((((((w9.setCell ⟨bk, 0, none⟩ (.int .i64 o)).setCell ⟨bk, 1, none⟩ (.int .i64 l)).setCell ⟨bk, 2, none⟩ (.int .i64 m)).setCell ⟨bk, 3, none⟩ (.slice A2 P2.length c2)).setCell ⟨bk, 4, none⟩ (.int .i64 0)).setCell ⟨bk, 5, none⟩ (.int .i64 (-1))).cell? ⟨w.heap.size, 5, none⟩ = some (.int .i64 0) := R10.cell 5
          have fr0 := R10.frozen 0
          have fr1 := R10.frozen 1
          have fr2 := R10.frozen 2
          have fr3 := R10.frozen 3
          have fr4 := R10.frozen 4
          have fr5 := R10.frozen 5
          go_wp2_with fail
          have q := blk6_set R10 (.int .i64 o) (.int .i64 l) (.int .i64 m) (.slice A2 P2.length c2) (.int .i64 0) (.int .i64 (-1))
          have PF := P10.only (only6 ((((((w9.setCell ⟨bk, 0, none⟩ (.int .i64 o)).setCell ⟨bk, 1, none⟩ (.int .i64 l)).setCell ⟨bk, 2, none⟩ (.int .i64 m)).setCell ⟨bk, 3, none⟩ (.slice A2 P2.length c2)).setCell ⟨bk, 4, none⟩ (.int .i64 0)).setCell ⟨bk, 5, none⟩ (.int .i64 (-1))) w.heap.size (.int .i64 o) (.int .i64 l) (.int .i64 m) (.slice A2 P2.length c2) (.int .i64 0) (.int .i64 (-1))) R10 (by decide)
          have HF := H10.only (only6 ((((((w9.setCell ⟨bk, 0, none⟩ (.int .i64 o)).setCell ⟨bk, 1, none⟩ (.int .i64 l)).setCell ⟨bk, 2, none⟩ (.int .i64 m)).setCell ⟨bk, 3, none⟩ (.slice A2 P2.length c2)).setCell ⟨bk, 4, none⟩ (.int .i64 0)).setCell ⟨bk, 5, none⟩ (.int .i64 (-1))) w.heap.size (.int .i64 o) (.int .i64 l) (.int .i64 m) (.slice A2 P2.length c2) (.int .i64 0) (.int .i64 (-1))) (by omega) (by have := H10.1; omega)
          have GF := only6r G10 (Nat.le_refl w.heap.size) (.int .i64 o) (.int .i64 l) (.int .i64 m) (.slice A2 P2.length c2) (.int .i64 0) (.int .i64 (-1))
          have q0 := q.cell 0
          have q1 := q.cell 1
          have q2 := q.cell 2
          have q3 := q.cell 3
          have q4 := q.cell 4
          have q5 := q.cell 5
          exact bodyPost_ret (v := kv o l m A2 P2.length c2 0 (-1)) (by simp [results, Try.results83, go_sem, q0, q1, q2, q3, q4, q5]) rfl (drawn_mk rfl HK2.out hl2 hc2 PF HF GF (by omega))
        · have eu : (u == 0) = false := by rw [beq_eq_false_iff_ne]; exact hu
          have a0 : w8.cell? ⟨bk, 0, none⟩ = some (.int .i64 o) := K8.cell 0
          have a1 : w8.cell? ⟨bk, 1, none⟩ = some (.int .i64 l) := K8.cell 1
          have a2 : w8.cell? ⟨bk, 2, none⟩ = some (.int .i64 m) := K8.cell 2
          have a3 : w8.cell? ⟨bk, 3, none⟩ = some (.slice A ps.length c) := K8.cell 3
          have a4 : w8.cell? ⟨bk, 4, none⟩ = some (.int .i64 0) := K8.cell 4
          have a5 : w8.cell? ⟨bk, 5, none⟩ = some (.int .i64 t) := K8.cell 5
          have r0 : w8.cell? ⟨w.heap.size, 0, none⟩ = some (.int .i64 0) := R8.cell 0
          have r1 : w8.cell? ⟨w.heap.size, 1, none⟩ = some (.int .i64 0) := R8.cell 1
          have r2 : w8.cell? ⟨w.heap.size, 2, none⟩ = some (.int .i64 0) := R8.cell 2
          have r3 : w8.cell? ⟨w.heap.size, 3, none⟩ = some (.slice none 0 0) := R8.cell 3
          have r4 : w8.cell? ⟨w.heap.size, 4, none⟩ = some (.int .i64 0) := R8.cell 4
          have r5 : w8.cell? ⟨w.heap.size, 5, none⟩ = some (.int .i64 0) := R8.cell 5
          have fr0 := R8.frozen 0
          have fr1 := R8.frozen 1
          have fr2 := R8.frozen 2
          have fr3 := R8.frozen 3
          have fr4 := R8.frozen 4
          have fr5 := R8.frozen 5
          go_wp2_with fail
          have q := blk6_set R8 (.int .i64 o) (.int .i64 l) (.int .i64 m) (.slice A ps.length c) (.int .i64 0) (.int .i64 t)
          have PF := P8.only (only6 w8 w.heap.size (.int .i64 o) (.int .i64 l) (.int .i64 m) (.slice A ps.length c) (.int .i64 0) (.int .i64 t)) R8 (by decide)
          have HF := H8.only (only6 w8 w.heap.size (.int .i64 o) (.int .i64 l) (.int .i64 m) (.slice A ps.length c) (.int .i64 0) (.int .i64 t)) (by omega) (by have := H8.1; omega)
          have GF := only6r G8 (Nat.le_refl w.heap.size) (.int .i64 o) (.int .i64 l) (.int .i64 m) (.slice A ps.length c) (.int .i64 0) (.int .i64 t)
          have q0 := q.cell 0
          have q1 := q.cell 1
          have q2 := q.cell 2
          have q3 := q.cell 3
          have q4 := q.cell 4
          have q5 := q.cell 5
          exact bodyPost_ret (v := kv o l m A ps.length c 0 t) (by simp [results, Try.results83, go_sem, q0, q1, q2, q3, q4, q5]) rfl (drawn_mk rfl HK.out hl1 hcap PF HF GF (by omega))

end Go.Proofs.Ytegfcpdkehgdpaa

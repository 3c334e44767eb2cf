/- The walk of drawn codes, as the laws on codes call it. Conditions: a slice of at most 1048576 bytes. -/
import Derived.Test.YtegfcpdkehgdpaaDk5
namespace Go.Proofs.Ytegfcpdkehgdpaa
open Go.RowKit

theorem OwnI.mono' {w : World} {base base' : Nat} {A : Option Addr} {xs : List Int} (h : OwnI w base A xs) (hb : base' ≤ base) : OwnI w base' A xs := by
  rcases h with h | ⟨g, cs, h1, h2, h3⟩
  · exact .inl h
  · exact .inr ⟨g, cs, h1, by omega, h3⟩
theorem OwnI.far6 {w : World} {base g : Nat} {A : Option Addr} {xs : List Int} {t : TypeId} {cs' : Array Value} (h : OwnI w base A xs) (hb : Blk w g t cs') (x0 x1 x2 x3 x4 x5 : Value) (hne : t ≠ 3 := by decide) : OwnI ((((((w.setCell ⟨g, 0, none⟩ x0).setCell ⟨g, 1, none⟩ x1).setCell ⟨g, 2, none⟩ x2).setCell ⟨g, 3, none⟩ x3).setCell ⟨g, 4, none⟩ x4).setCell ⟨g, 5, none⟩ x5) base A xs := by
  rcases h with h | ⟨k, cs, h1, h2, h3, h4⟩
  · exact .inl h
  · exact .inr ⟨k, cs, h1, h2, h3.far6 (fun e => by subst e; exact Blk.ne_ hb h3 hne rfl) _ _ _ _ _ _, h4⟩
/-- Something and codes, drawn, as a law calls it. -/
def DrawKL (w : World) (e : Ending) (w' : World) : Prop :=
  ∃ (o l m : Int) (A : Option Addr) (c : Nat) (b t : Int) (ps : List (Int × Int)) (A2 : Option Addr) (c2 : Nat) (xs : List Int), e = .returned (.tuple #[kv o l m A ps.length c b t, .slice A2 xs.length c2]) ∧ ps.length ≤ 200 ∧ ps.length ≤ c ∧ xs.length ≤ 3200 ∧ xs.length ≤ c2 ∧ OwnP w' w.heap.size A ps ∧ OwnI w' w.heap.size A2 xs ∧ Below w.heap.size w w'
theorem ivals_set (xs : List Int) (j : Nat) (y : Int) : (ivals xs).set j (.int .i64 y) = ivals (xs.set j y) := by simp [ivals, List.map_set]
theorem drawkl_mk {w w' : World} {o l m : Int} {A : Option Addr} {n c : Nat} {b t : Int} {ps : List (Int × Int)} {A2 : Option Addr} {n2 c2 base : Nat} {xs : List Int} (hn : n = ps.length) (h1 : ps.length ≤ 200) (h2 : ps.length ≤ c) (h3 : OwnP w' w.heap.size A ps) (h4 : Below w.heap.size w w') (hx : n2 = xs.length) (h5 : xs.length ≤ 3200) (h6 : w'.ownsRow base 3 1 (.slice A2 n2 c2) n2 (ivals xs)) (h7 : w.heap.size ≤ base) : DrawKL w (.returned (.tuple #[kv o l m A n c b t, .slice A2 n2 c2])) w' := by
  subst hn; subst hx; exact ⟨o, l, m, A, c, b, t, ps, A2, c2, xs, rfl, h1, h2, h5, own_cap h6, h3, OwnI.of_own rfl (own_base h6 h7), h4⟩

set_option maxRecDepth 100000 in
set_option maxHeartbeats 6000000 in
theorem draw_CodesValid (A : Option Addr) (n c : Nat) (w : World) (h : Src w w.heap.size A n) (hn : n ≤ 1048576) (hc : n ≤ c) (hcm : c ≤ maxLen) :
    Calls Try.prog 73 #[.slice A n c] w (DrawKL w) := by
  obtain ⟨i0, hi0, hz0, hz1, hz3⟩ := info_parts try_infoI
  unfold maxLen at hcm
  have HO := hide (rd_open A n c _ (h.next ((Below.refl _ _).alloc (Nat.le_refl _) (.cells #[.int .i64 0, .int .i64 0, .int .i64 0, .slice none 0 0, .int .i64 0, .int .i64 0] 31))) hn hc hcm)
  have B0 : Below w.heap.size w (w.alloc (.cells #[.int .i64 0, .int .i64 0, .int .i64 0, .slice none 0 0, .int .i64 0, .int .i64 0] 31)) := (Below.refl _ _).alloc (Nat.le_refl _) _
  have R0 := Blk.new w 31 #[.int .i64 0, .int .i64 0, .int .i64 0, .slice none 0 0, .int .i64 0, .int .i64 0]
  have hz := box_size w (.cells #[.int .i64 0, .int .i64 0, .int .i64 0, .slice none 0 0, .int .i64 0, .int .i64 0] 31)
  clear h
  go_enter Try.func73, Try.ntmps73
  go_wp2_with fail
  refine (unhide HO).mono ?_; rintro e w1 ⟨g, rfl, H1, hb1⟩
  have hgg := H1.1
  have R1 := R0.below hb1 R0.lt
  have B1 := below_next (Nat.le_refl _) B0 hb1
  have s1 := B1.size
  clear HO R0 B0 hb1
  go_wp2_with fail
  refine (rd_l2Draw _ g 0 w1 H1 (by omega)).mono ?_; rintro e w2 ⟨o, l, m, A, c, b, t, ps, rfl, hk, hl0, hcp, P2, ⟨p2, hp2, hr2⟩, hg2⟩
  obtain ⟨n0, n1, n2, n3, n4, n5⟩ := Sx.kOK_nums hk
  have R2 := Blk.rd R1 H1 hg2 (by decide)
  have H2 := hr2
  have B2 := draw_past (Nat.le_refl _) B1 (by have := H1.1; omega) hg2
  have P2 := P2.mono s1
  have CE := hide (fun wx => spec_l1End o l m wx (by omega) (by omega))
  have CL := hide (fun wx => spec_l1Last o l m wx (by omega) (by omega))
  have t1 := Sx.two_pos m
  have t2 := Sx.two_lit (l := m) (by omega)
  have e1 : IntKind.i64.wrap (Sx.two m) = Sx.two m := IntWalk.i64_in _ (by omega)
  clear R1 H1 B1 hr2 hg2
  obtain ⟨bk, hbk⟩ : ∃ x, x = w2.heap.size := ⟨_, rfl⟩
  have hgk : g < bk := by rw [hbk]; exact H2.lt
  have hwk : w.heap.size < bk := by rw [hbk]; exact R2.lt
  have hbk1 : w.heap.size ≤ bk := by omega
  have BX : Below w2.heap.size w2 (w2.alloc (.cells #[.int .i64 o, .int .i64 l, .int .i64 m, .slice A ps.length c, .int .i64 b, .int .i64 t] 31)) := (Below.refl _ _).alloc (Nat.le_refl _) _
  have K3 := Blk.new w2 31 #[.int .i64 o, .int .i64 l, .int .i64 m, .slice A ps.length c, .int .i64 b, .int .i64 t]
  have R3 := Blk.below R2 BX R2.lt
  have P3 := OwnP.below P2 BX
  have H3 := Rd.below H2 BX
  have B3 := below_next (Nat.le_refl _) B2 BX
  rw [← hbk] at K3
  have a0 : (w2.alloc (.cells #[.int .i64 o, .int .i64 l, .int .i64 m, .slice A ps.length c, .int .i64 b, .int .i64 t] 31)).cell? ⟨bk, 0, none⟩ = some (.int .i64 o) := K3.cell 0
  have a1 : (w2.alloc (.cells #[.int .i64 o, .int .i64 l, .int .i64 m, .slice A ps.length c, .int .i64 b, .int .i64 t] 31)).cell? ⟨bk, 1, none⟩ = some (.int .i64 l) := K3.cell 1
  have a2 : (w2.alloc (.cells #[.int .i64 o, .int .i64 l, .int .i64 m, .slice A ps.length c, .int .i64 b, .int .i64 t] 31)).cell? ⟨bk, 2, none⟩ = some (.int .i64 m) := K3.cell 2
  have a3 : (w2.alloc (.cells #[.int .i64 o, .int .i64 l, .int .i64 m, .slice A ps.length c, .int .i64 b, .int .i64 t] 31)).cell? ⟨bk, 3, none⟩ = some (.slice A ps.length c) := K3.cell 3
  have a4 : (w2.alloc (.cells #[.int .i64 o, .int .i64 l, .int .i64 m, .slice A ps.length c, .int .i64 b, .int .i64 t] 31)).cell? ⟨bk, 4, none⟩ = some (.int .i64 b) := K3.cell 4
  have a5 : (w2.alloc (.cells #[.int .i64 o, .int .i64 l, .int .i64 m, .slice A ps.length c, .int .i64 b, .int .i64 t] 31)).cell? ⟨bk, 5, none⟩ = some (.int .i64 t) := K3.cell 5
  clear R2 P2 H2 B2 BX
  have CC := hide (rd_l2Codes _ g p2 w.heap.size 24 o l m A c b t ps (w2.alloc (.cells #[.int .i64 o, .int .i64 l, .int .i64 m, .slice A ps.length c, .int .i64 b, .int .i64 t] 31)) H3 (by omega) (by omega) P3 B3.size hk hl0 hcp)
  have hs3 : bk ≤ (w2.alloc (.cells #[.int .i64 o, .int .i64 l, .int .i64 m, .slice A ps.length c, .int .i64 b, .int .i64 t] 31)).heap.size := Nat.le_of_lt K3.lt
  rw [hbk] at a0 a1 a2 a3 a4 a5
  go_wp2_with fail
  refine (unhide CC).mono ?_; rintro e w4 ⟨Aw, cw, xs, rfl, hxl, W4, P4, ⟨p4, hp4, hr4⟩, hg4⟩
  have R4 := Blk.rd R3 H3 hg4 (by decide)
  have K4 := Blk.rd K3 H3 hg4 (by decide)
  have H4 := hr4
  have B4 := draw_past (Nat.le_refl _) B3 (by have := H3.1; omega) hg4
  have W4 := own_base W4 hs3
  clear R3 K3 P3 H3 B3 CC hs3 hr4 hg4 a0 a1 a2 a3 a4 a5
  rw [← hbk]
  clear hbk
  go_wp2_with fail
  refine (rd_pick _ g p4 200 _ H4 (by omega) (by omega) (by omega)).mono ?_; rintro e w5 ⟨u, rfl, _, _, _, hr5, hg5⟩
  have R5 := Blk.rd R4 H4 hg5 (by decide)
  have K5 := Blk.rd K4 H4 hg5 (by decide)
  have P5 := OwnP.rd P4 H4 hg5
  have W5 := own_rd W4 H4 hg5 (by decide)
  have H5 := hr5
  have B5 := draw_past (Nat.le_refl _) B4 (by have := H4.1; omega) hg5
  clear R4 K4 P4 W4 H4 B4 hr5 hg5
  by_cases hu : u = 0
  · have eu : (u == 0) = true := by rw [hu]; rfl
    clear W5 hxl
    have BX : Below w5.heap.size w5 (w5.alloc (.cells #[] 3)) := (Below.refl _ _).alloc (Nat.le_refl _) _
    have W6 := own_base (own_emptyP w5 3 1 w5.heap.size rfl) (Nat.le_of_lt K5.lt)
    have R6 := Blk.below R5 BX R5.lt
    have K6 := Blk.below K5 BX K5.lt
    have P6 := OwnP.below P5 BX
    have H6 := Rd.below H5 BX
    have B6 := below_next (Nat.le_refl _) B5 BX
    clear R5 K5 P5 H5 B5 BX
    go_wp2_with fail
    go_loopw [6, 7] (fun s6 s7 wr => ∃ (xs : List Int) (Aw : Option Addr) (cw pq : Nat), s6 = .slice Aw xs.length cw ∧ s7 = .int .i64 xs.length ∧ xs.length ≤ 3101 ∧ pq ≤ 1000 + xs.length ∧ Blk wr w.heap.size 31 #[.int .i64 0, .int .i64 0, .int .i64 0, .slice none 0 0, .int .i64 0, .int .i64 0] ∧ Blk wr bk 31 #[.int .i64 o, .int .i64 l, .int .i64 m, .slice A ps.length c, .int .i64 b, .int .i64 t] ∧ OwnP wr w.heap.size A ps ∧ wr.ownsRow bk 3 1 (.slice Aw xs.length cw) xs.length (ivals xs) ∧ Rd wr (w.alloc (.cells #[.int .i64 0, .int .i64 0, .int .i64 0, .slice none 0 0, .int .i64 0, .int .i64 0] 31)).heap.size g pq ∧ Below w.heap.size w wr) (fun _ s7 _ => 3200 - (intOf s7).toNat)
    case atStart => exact ⟨[], _, 0, _, rfl, rfl, by simp, by simp; omega, R6, K6, P6, W6, H6, B6⟩
    case round =>
      clear R6 K6 P6 W6 H6 B6
      obtain ⟨xs, Aw, cw, pq, rfl, rfl, hxl, hpq, R7, K7, P7, W7, H7, B7⟩ := hrel
      go_wp2_with fail
      refine (num_list [2000, 2001, 3101] 3 H7 (by omega) (by simp) (by simp) (Q := fun y => y ≤ 3101) (by simp)).mono ?_; rintro e w8 ⟨y, rfl, hy, hr8, hg8⟩
      have R8 := Blk.rd R7 H7 hg8 (by decide)
      have K8 := Blk.rd K7 H7 hg8 (by decide)
      have P8 := OwnP.rd P7 H7 hg8
      have W8 := own_rd W7 H7 hg8 (by decide)
      have H8 := hr8
      have B8 := draw_past (Nat.le_refl _) B7 (by have := H7.1; omega) hg8
      clear R7 K7 P7 W7 H7 B7 hr8 hg8
      by_cases hiy : (xs.length : Int) < y
      · have hw1 : (xs ++ [(0 : Int)]).length = xs.length + 1 := by simp
        have e7 : IntKind.i64.wrap ((xs.length : Int) + 1) = (xs.length : Int) + 1 := IntWalk.i64_in _ (by omega)
        go_wp2_with (at_builtin; refine wpList_append_any _ rfl _ _ _ rfl bk 3 i0 (.int .i64 0) 1 8 Try.underlying38 hi0 hz0 hz1 hz3 (by rfl) (by decide) (.slice Aw xs.length cw) xs.length (ivals xs) rfl (W8.alloc _) _ _ 1 1 [.int .i64 0] rfl (reads_one _ _ _) (by simp [Value.oneCell']) (by simp only [maxLen]; omega) (by omega) (by have := (Blk.alloc K8 (.cells #[.int .i64 0] 3)).lt; omega) ?_; intro v' w9 hown9 hg9 _; have BY : Below w8.heap.size w8 (w8.alloc (.cells #[.int .i64 0] 3)) := (Below.refl _ _).alloc (Nat.le_refl _) _; have WY := W8.alloc (.cells #[.int .i64 0] 3); have R9 := blk_other (R8.alloc (.cells #[.int .i64 0] 3)) WY hg9 (by decide); have K9 := blk_other (K8.alloc (.cells #[.int .i64 0] 3)) WY hg9 (by decide); have P9 := (P8.below BY).other WY hg9 (by decide); have H9 := (H8.below BY).row WY hg9 (by decide) (by have := H8.1; omega); have B9 := (below_next (Nat.le_refl _) B8 BY).grown hg9 (below_next (Nat.le_refl _) B8 BY).size (fun k hk => by have := (WY.lt k hk).1; omega); have W9 := own_nodup hown9; obtain ⟨Aw2, cw2, rfl⟩ := own_shapeN W9; clear WY BY hown9 hg9; clear R8 K8 P8 W8 H8 B8)
        go_roundw
        case rel => exact ⟨xs ++ [0], Aw2, cw2, _, by rw [hw1], by rw [hw1]; rfl, by rw [hw1]; omega, by rw [hw1]; omega, R9, K9, P9, (by rw [hw1]; exact own_ints W9), H9, B9⟩
        case measure => simp [intOf]; omega
      · have hiy : ¬ (xs.length : Int) < y := hiy
        by_cases hx0 : 0 < xs.length
        · have hx0I : (0 : Int) < (xs.length : Int) := by omega
          go_wp2_with fail
          refine (rd_pick _ g _ 10 _ H8 (by omega) (by omega) (by omega)).mono ?_; rintro e w20 ⟨u2, rfl, _, _, _, hr20, hg20⟩
          have R20 := Blk.rd R8 H8 hg20 (by decide)
          have K20 := Blk.rd K8 H8 hg20 (by decide)
          have P20 := OwnP.rd P8 H8 hg20
          have W20 := own_rd W8 H8 hg20 (by decide)
          have H20 := hr20
          have B20 := draw_past (Nat.le_refl _) B8 (by have := H8.1; omega) hg20
          clear R8 K8 P8 W8 H8 B8 hr20 hg20
          by_cases hu2 : u2 = 0
          · have eu2 : (u2 == 0) = true := by rw [hu2]; rfl
            obtain ⟨gw, cw2, hgw, _⟩ := own_shape1 W20 hx0
            injection hgw with hgw _ hcw
            subst hgw; subst hcw
            have s11 : w20.drew.cell? ⟨bk, 0, none⟩ = some (.int .i64 o) ∧ w20.drew.cell? ⟨bk, 1, none⟩ = some (.int .i64 l) ∧ w20.drew.cell? ⟨bk, 2, none⟩ = some (.int .i64 m) ∧ w20.drew.cell? ⟨bk, 3, none⟩ = some (.slice A ps.length c) ∧ w20.drew.cell? ⟨bk, 4, none⟩ = some (.int .i64 b) ∧ w20.drew.cell? ⟨bk, 5, none⟩ = some (.int .i64 t) := ⟨K20.cell 0, K20.cell 1, K20.cell 2, K20.cell 3, K20.cell 4, K20.cell 5⟩
            go_wp2_with fail
            refine wp_region_held_drew (S := (fun W => W.cell? ⟨bk, 0, none⟩ = some (.int .i64 o) ∧ W.cell? ⟨bk, 1, none⟩ = some (.int .i64 l) ∧ W.cell? ⟨bk, 2, none⟩ = some (.int .i64 m) ∧ W.cell? ⟨bk, 3, none⟩ = some (.slice A ps.length c) ∧ W.cell? ⟨bk, 4, none⟩ = some (.int .i64 b) ∧ W.cell? ⟨bk, 5, none⟩ = some (.int .i64 t))) (by kernel_rfl) (by first | assumption | exact s11) (fun hHeld => ?_)
            refine wpAnyH_take (i := 0) (oi := { dst := some 37, op := Op.move (Operand.tmp 6), type := 38, pos := "l2_words.go:487", after := #[], guard := none }) (v := ?_) rfl (by kernel_rfl) (by kernel_rfl) (by kernel_rfl) (fun _ _ _ h => h) (Or.inl ⟨by rfl, ?_⟩) (by assumption) ?_; rotate_left
            · intro W hW; (try dsimp only at hW); go_simp;  try (with_reducible rfl)
            try simp only [Act.put, List.setIfInBounds_toArray, List.set_cons_zero, List.set_cons_succ]
            refine wpAnyH_take (i := 1) (oi := { dst := some 38, op := Op.move (Operand.tmp 4), type := 82, pos := "l2_words.go:487", after := #[], guard := none }) (v := ?_) rfl (by kernel_rfl) (by kernel_rfl) (by kernel_rfl) (fun _ _ _ h => h) (Or.inl ⟨by rfl, ?_⟩) (by assumption) ?_; rotate_left
            · intro W hW; (try dsimp only at hW); go_simp;  try (with_reducible rfl)
            try simp only [Act.put, List.setIfInBounds_toArray, List.set_cons_zero, List.set_cons_succ]
            refine wpAnyH_take (i := 2) (oi := { dst := some 39, op := Op.move (Operand.tmp 6), type := 38, pos := "l2_words.go:487", after := #[], guard := none }) (v := ?_) rfl (by kernel_rfl) (by kernel_rfl) (by kernel_rfl) (fun _ _ _ h => h) (Or.inl ⟨by rfl, ?_⟩) (by assumption) ?_; rotate_left
            · intro W hW; (try dsimp only at hW); go_simp;  try (with_reducible rfl)
            try simp only [Act.put, List.setIfInBounds_toArray, List.set_cons_zero, List.set_cons_succ]
            refine wpAnyH_take (i := 3) (oi := { dst := some 40, op := Op.call { callee := Callee.builtin Builtin.len, args := #[Operand.tmp 39], argTypes := #[38] }, type := 3, pos := "l2_words.go:487", after := #[{ on := 2, ground := Ground.data }], guard := none }) (v := ?_) rfl (by kernel_rfl) (by kernel_rfl) (by kernel_rfl) (fun _ _ _ h => h) (Or.inl ⟨by rfl, ?_⟩) (by assumption) ?_; rotate_left
            · intro W hW; (try dsimp only at hW); go_simp;  try (with_reducible rfl)
            try simp only [Act.put, List.setIfInBounds_toArray, List.set_cons_zero, List.set_cons_succ]
            refine wpAnyH_take (i := 5) (oi := { dst := some 42, op := Op.move (Operand.tmp 4), type := 82, pos := "l2_words.go:487", after := #[], guard := none }) (v := ?_) rfl (by kernel_rfl) (by kernel_rfl) (by kernel_rfl) (fun _ _ _ h => h) (Or.inl ⟨by rfl, ?_⟩) (by assumption) ?_; rotate_left
            · intro W hW; (try dsimp only at hW); go_simp;  try (with_reducible rfl)
            try simp only [Act.put, List.setIfInBounds_toArray, List.set_cons_zero, List.set_cons_succ]
            refine wpAnyH_take (i := 6) (oi := { dst := some 43, op := Op.fieldAddr 31 (Operand.tmp 5) 0, type := 0, pos := "l2_words.go:487", after := #[], guard := none }) (v := ?_) rfl (by kernel_rfl) (by kernel_rfl) (by kernel_rfl) (fun _ _ _ h => h) (Or.inl ⟨by rfl, ?_⟩) (by assumption) ?_; rotate_left
            · intro W hW; (try dsimp only at hW); go_simp;  try (with_reducible rfl)
            try simp only [Act.put, List.setIfInBounds_toArray, List.set_cons_zero, List.set_cons_succ]
            refine wpAnyH_take (i := 7) (oi := { dst := some 44, op := Op.load 28 (Operand.tmp 43), type := 28, pos := "l2_words.go:487", after := #[{ on := 6, ground := Ground.data }], guard := none }) (v := ?_) rfl (by kernel_rfl) (by kernel_rfl) (by kernel_rfl) (fun _ _ _ h => h) (Or.inl ⟨by rfl, ?_⟩) (by assumption) ?_; rotate_left
            · intro W hW; (try dsimp only at hW); go_simp;  try (with_reducible rfl)
            try simp only [Act.put, List.setIfInBounds_toArray, List.set_cons_zero, List.set_cons_succ]
            refine wpAnyH_take (i := 9) (oi := { dst := some 46, op := Op.fieldAddr 31 (Operand.tmp 5) 0, type := 0, pos := "l2_words.go:487", after := #[], guard := none }) (v := ?_) rfl (by kernel_rfl) (by kernel_rfl) (by kernel_rfl) (fun _ _ _ h => h) (Or.inl ⟨by rfl, ?_⟩) (by assumption) ?_; rotate_left
            · intro W hW; (try dsimp only at hW); go_simp;  try (with_reducible rfl)
            try simp only [Act.put, List.setIfInBounds_toArray, List.set_cons_zero, List.set_cons_succ]
            refine wpAnyH_take (i := 10) (oi := { dst := some 47, op := Op.load 28 (Operand.tmp 46), type := 28, pos := "l2_words.go:487", after := #[{ on := 9, ground := Ground.data }], guard := none }) (v := ?_) rfl (by kernel_rfl) (by kernel_rfl) (by kernel_rfl) (fun _ _ _ h => h) (Or.inl ⟨by rfl, ?_⟩) (by assumption) ?_; rotate_left
            · intro W hW; (try dsimp only at hW); go_simp;  try (with_reducible rfl)
            try simp only [Act.put, List.setIfInBounds_toArray, List.set_cons_zero, List.set_cons_succ]
            refine wpAnyH_take (i := 12) (oi := { dst := some 49, op := Op.fieldAddr 31 (Operand.tmp 5) 0, type := 0, pos := "l2_words.go:487", after := #[], guard := none }) (v := ?_) rfl (by kernel_rfl) (by kernel_rfl) (by kernel_rfl) (fun _ _ _ h => h) (Or.inl ⟨by rfl, ?_⟩) (by assumption) ?_; rotate_left
            · intro W hW; (try dsimp only at hW); go_simp;  try (with_reducible rfl)
            try simp only [Act.put, List.setIfInBounds_toArray, List.set_cons_zero, List.set_cons_succ]
            refine wpAnyH_take (i := 13) (oi := { dst := some 50, op := Op.load 28 (Operand.tmp 49), type := 28, pos := "l2_words.go:487", after := #[{ on := 12, ground := Ground.data }], guard := none }) (v := ?_) rfl (by kernel_rfl) (by kernel_rfl) (by kernel_rfl) (fun _ _ _ h => h) (Or.inl ⟨by rfl, ?_⟩) (by assumption) ?_; rotate_left
            · intro W hW; (try dsimp only at hW); go_simp;  try (with_reducible rfl)
            try simp only [Act.put, List.setIfInBounds_toArray, List.set_cons_zero, List.set_cons_succ]
            refine wpAnyH_ready (rs := [4]) (by kernel_rfl) (by simp) (AllReadyH.cons (i := 4) (o := { dst := some 41, op := Op.call { callee := Callee.value (Operand.func 85), args := #[Operand.tmp 38, Operand.tmp 40], argTypes := #[82, 3] }, type := 3, pos := "l2_words.go:487", after := #[{ on := 1, ground := Ground.data }, { on := 3, ground := Ground.data }], guard := none }) rfl (fun K hK => ?_) AllReadyH.nil)
            go_simp
            refine (rd_pick _ g _ (xs.length : Int) _ (Rd.drew H20) (by omega) (by omega) (by omega)).mono ?_; rintro e w21 ⟨iv, rfl, hi0, hi1, _, hr21, hg21⟩
            have R21 := Blk.rd (Blk.drew R20) (Rd.drew H20) hg21 (by decide)
            have K21 := Blk.rd (Blk.drew K20) (Rd.drew H20) hg21 (by decide)
            have P21 := OwnP.rd (OwnP.below P20 (Below.refl _ _).drew) (Rd.drew H20) hg21
            have W21 := own_rd (own_below W20 (Below.refl _ _).drew) (Rd.drew H20) hg21 (by decide)
            have H21 := hr21
            have B21 := draw_past (Nat.le_refl _) B20.drew (by have := H20.1; omega) hg21
            have hi1 := hi1 (by omega)
            obtain ⟨iN, rfl⟩ := Int.eq_ofNat_of_zero_le hi0
            have HK21 : w21.cell? ⟨bk, 0, none⟩ = some (.int .i64 o) ∧ w21.cell? ⟨bk, 1, none⟩ = some (.int .i64 l) ∧ w21.cell? ⟨bk, 2, none⟩ = some (.int .i64 m) ∧ w21.cell? ⟨bk, 3, none⟩ = some (.slice A ps.length c) ∧ w21.cell? ⟨bk, 4, none⟩ = some (.int .i64 b) ∧ w21.cell? ⟨bk, 5, none⟩ = some (.int .i64 t) := ⟨K21.cell 0, K21.cell 1, K21.cell 2, K21.cell 3, K21.cell 4, K21.cell 5⟩
            try go_wp2_with fail
            refine hK.out _ _ (by (try dsimp only); first | exact HK21) (fun hHeld => ?_)
            clear hK K
            try simp only [Act.put, List.setIfInBounds_toArray, List.set_cons_zero, List.set_cons_succ]
            refine wpAnyH_ready (rs := [8]) (by kernel_rfl) (by simp) (AllReadyH.cons (i := 8) (o := { dst := some 45, op := Op.call { callee := Callee.value (Operand.func 87), args := #[Operand.tmp 44], argTypes := #[28] }, type := 3, pos := "l2_words.go:487", after := #[{ on := 7, ground := Ground.data }, { on := 4, ground := Ground.chain }], guard := none }) rfl (fun K hK => ?_) AllReadyH.nil)
            go_simp
            refine ((unhide CE) _).mono ?_; rintro e w22 ⟨rfl, hb22⟩
            have R22 := Blk.below R21 hb22 R21.lt
            have K22 := Blk.below K21 hb22 K21.lt
            have P22 := OwnP.below P21 hb22
            have W22 := own_below W21 hb22
            have H22 := Rd.below H21 hb22
            have B22 := below_next (Nat.le_refl _) B21 hb22
            have HK22 : w22.cell? ⟨bk, 0, none⟩ = some (.int .i64 o) ∧ w22.cell? ⟨bk, 1, none⟩ = some (.int .i64 l) ∧ w22.cell? ⟨bk, 2, none⟩ = some (.int .i64 m) ∧ w22.cell? ⟨bk, 3, none⟩ = some (.slice A ps.length c) ∧ w22.cell? ⟨bk, 4, none⟩ = some (.int .i64 b) ∧ w22.cell? ⟨bk, 5, none⟩ = some (.int .i64 t) := ⟨K22.cell 0, K22.cell 1, K22.cell 2, K22.cell 3, K22.cell 4, K22.cell 5⟩
            try go_wp2_with fail
            refine hK.out _ _ (by (try dsimp only); first | exact HK22) (fun hHeld => ?_)
            clear hK K
            try simp only [Act.put, List.setIfInBounds_toArray, List.set_cons_zero, List.set_cons_succ]
            refine wpAnyH_ready (rs := [11]) (by kernel_rfl) (by simp) (AllReadyH.cons (i := 11) (o := { dst := some 48, op := Op.call { callee := Callee.value (Operand.func 95), args := #[Operand.tmp 47], argTypes := #[28] }, type := 3, pos := "l2_words.go:487", after := #[{ on := 10, ground := Ground.data }, { on := 8, ground := Ground.chain }], guard := none }) rfl (fun K hK => ?_) AllReadyH.nil)
            go_simp
            refine ((unhide CL) _).mono ?_; rintro e w23 ⟨rfl, hb23⟩
            have R23 := Blk.below R22 hb23 R22.lt
            have K23 := Blk.below K22 hb23 K22.lt
            have P23 := OwnP.below P22 hb23
            have W23 := own_below W22 hb23
            have H23 := Rd.below H22 hb23
            have B23 := below_next (Nat.le_refl _) B22 hb23
            have HK23 : w23.cell? ⟨bk, 0, none⟩ = some (.int .i64 o) ∧ w23.cell? ⟨bk, 1, none⟩ = some (.int .i64 l) ∧ w23.cell? ⟨bk, 2, none⟩ = some (.int .i64 m) ∧ w23.cell? ⟨bk, 3, none⟩ = some (.slice A ps.length c) ∧ w23.cell? ⟨bk, 4, none⟩ = some (.int .i64 b) ∧ w23.cell? ⟨bk, 5, none⟩ = some (.int .i64 t) := ⟨K23.cell 0, K23.cell 1, K23.cell 2, K23.cell 3, K23.cell 4, K23.cell 5⟩
            try go_wp2_with fail
            refine hK.out _ _ (by (try dsimp only); first | exact HK23) (fun hHeld => ?_)
            clear hK K
            try simp only [Act.put, List.setIfInBounds_toArray, List.set_cons_zero, List.set_cons_succ]
            refine wpAnyH_ready (rs := [14]) (by kernel_rfl) (by simp) (AllReadyH.cons (i := 14) (o := { dst := some 51, op := Op.call { callee := Callee.value (Operand.func 95), args := #[Operand.tmp 50], argTypes := #[28] }, type := 3, pos := "l2_words.go:487", after := #[{ on := 13, ground := Ground.data }, { on := 11, ground := Ground.chain }], guard := none }) rfl (fun K hK => ?_) AllReadyH.nil)
            go_simp
            refine ((unhide CL) _).mono ?_; rintro e w24 ⟨rfl, hb24⟩
            have R24 := Blk.below R23 hb24 R23.lt
            have K24 := Blk.below K23 hb24 K23.lt
            have P24 := OwnP.below P23 hb24
            have W24 := own_below W23 hb24
            have H24 := Rd.below H23 hb24
            have B24 := below_next (Nat.le_refl _) B23 hb24
            have HK24 : w24.cell? ⟨bk, 0, none⟩ = some (.int .i64 o) ∧ w24.cell? ⟨bk, 1, none⟩ = some (.int .i64 l) ∧ w24.cell? ⟨bk, 2, none⟩ = some (.int .i64 m) ∧ w24.cell? ⟨bk, 3, none⟩ = some (.slice A ps.length c) ∧ w24.cell? ⟨bk, 4, none⟩ = some (.int .i64 b) ∧ w24.cell? ⟨bk, 5, none⟩ = some (.int .i64 t) := ⟨K24.cell 0, K24.cell 1, K24.cell 2, K24.cell 3, K24.cell 4, K24.cell 5⟩
            try go_wp2_with fail
            refine hK.out _ _ (by (try dsimp only); first | exact HK24) (fun hHeld => ?_)
            clear hK K
            try simp only [Act.put, List.setIfInBounds_toArray, List.set_cons_zero, List.set_cons_succ]
            refine wpAnyH_take (i := 15) (oi := { dst := some 52, op := Op.binOp BinOp.add 3 (Operand.tmp 51) (Operand.const (Value.int IntKind.i64 1)) 3, type := 3, pos := "l2_words.go:487", after := #[{ on := 14, ground := Ground.data }], guard := none }) (v := ?_) rfl (by kernel_rfl) (by kernel_rfl) (by kernel_rfl) (fun _ _ _ h => h) (Or.inl ⟨by rfl, ?_⟩) (by assumption) ?_; rotate_left
            · intro W hW; (try dsimp only at hW); go_simp;  try (with_reducible rfl)
            try simp only [Act.put, List.setIfInBounds_toArray, List.set_cons_zero, List.set_cons_succ]
            refine wpAnyH_ready (rs := [16]) (by kernel_rfl) (by simp) (AllReadyH.cons (i := 16) (o := { dst := some 53, op := Op.buildSlice 38 4 #[(0, Operand.const (Value.int IntKind.i64 (-1))), (1, Operand.tmp 45), (2, Operand.tmp 48), (3, Operand.tmp 52)], type := 38, pos := "l2_words.go:487", after := #[{ on := 8, ground := Ground.data }, { on := 11, ground := Ground.data }, { on := 15, ground := Ground.data }], guard := none }) rfl (fun K hK => ?_) AllReadyH.nil)
            go_simp
            have BA : Below w24.heap.size w24 (w24.alloc (.cells #[.int .i64 (-1), .int .i64 (Sx.two l + 1), .int .i64 (Sx.two m - 1), .int .i64 (Sx.two m)] 3)) := (Below.refl _ _).alloc (Nat.le_refl _) _
            refine hK.out _ _ (by (try dsimp only); first | exact keepB6 hHeld BA) (fun hHeld => ?_)
            clear hK K
            try simp only [Act.put, List.setIfInBounds_toArray, List.set_cons_zero, List.set_cons_succ]
            refine wpAnyH_ready (rs := [17]) (by kernel_rfl) (by simp) (AllReadyH.cons (i := 17) (o := { dst := some 54, op := Op.call { callee := Callee.value (Operand.func 86), args := #[Operand.tmp 42, Operand.tmp 53], argTypes := #[82, 38] }, type := 3, pos := "l2_words.go:487", after := #[{ on := 5, ground := Ground.data }, { on := 16, ground := Ground.data }, { on := 14, ground := Ground.chain }], guard := none }) rfl (fun K hK => ?_) AllReadyH.nil)
            go_simp
            refine (num_list [-1, Sx.two l + 1, Sx.two m - 1, Sx.two m] 3 H24 (by omega) (by simp) (by simp) (Q := fun _ => True) (fun _ _ => trivial)).mono ?_; rintro e w25 ⟨y, rfl, _, hr25, hg25⟩
            have R25 := Blk.rd R24 H24 hg25 (by decide)
            have K25 := Blk.rd K24 H24 hg25 (by decide)
            have P25 := OwnP.rd P24 H24 hg25
            have W25 := own_rd W24 H24 hg25 (by decide)
            have H25 := hr25
            have B25 := draw_past (Nat.le_refl _) B24 (by have := H24.1; omega) hg25
            have HK25 : w25.cell? ⟨bk, 0, none⟩ = some (.int .i64 o) ∧ w25.cell? ⟨bk, 1, none⟩ = some (.int .i64 l) ∧ w25.cell? ⟨bk, 2, none⟩ = some (.int .i64 m) ∧ w25.cell? ⟨bk, 3, none⟩ = some (.slice A ps.length c) ∧ w25.cell? ⟨bk, 4, none⟩ = some (.int .i64 b) ∧ w25.cell? ⟨bk, 5, none⟩ = some (.int .i64 t) := ⟨K25.cell 0, K25.cell 1, K25.cell 2, K25.cell 3, K25.cell 4, K25.cell 5⟩
            try go_wp2_with fail
            refine hK.out _ _ (by (try dsimp only); first | exact HK25) (fun hHeld => ?_)
            clear hK K
            try simp only [Act.put, List.setIfInBounds_toArray, List.set_cons_zero, List.set_cons_succ]
            refine wpAnyH_take (i := 18) (oi := { dst := some 55, op := Op.indexAddr 38 (Operand.tmp 37) (Operand.tmp 41), type := 0, pos := "l2_words.go:487", after := #[{ on := 0, ground := Ground.data }, { on := 4, ground := Ground.data }, { on := 0, ground := Ground.phase }, { on := 1, ground := Ground.phase }, { on := 2, ground := Ground.phase }, { on := 3, ground := Ground.phase }, { on := 4, ground := Ground.phase }, { on := 5, ground := Ground.phase }, { on := 6, ground := Ground.phase }, { on := 7, ground := Ground.phase }, { on := 8, ground := Ground.phase }, { on := 9, ground := Ground.phase }, { on := 10, ground := Ground.phase }, { on := 11, ground := Ground.phase }, { on := 12, ground := Ground.phase }, { on := 13, ground := Ground.phase }, { on := 14, ground := Ground.phase }, { on := 15, ground := Ground.phase }, { on := 16, ground := Ground.phase }, { on := 17, ground := Ground.phase }], guard := none }) (v := ?_) rfl (by kernel_rfl) (by kernel_rfl) (by kernel_rfl) (fun _ _ _ h => h) (Or.inl ⟨by rfl, ?_⟩) (by assumption) ?_; rotate_left
            · intro W hW; (try dsimp only at hW); go_simp;  try (with_reducible rfl)
            try simp only [Act.put, List.setIfInBounds_toArray, List.set_cons_zero, List.set_cons_succ]
            refine wpAnyH_ready (rs := [19]) (by kernel_rfl) (by simp) (AllReadyH.cons (i := 19) (o := { dst := none, op := Op.store 3 (Operand.tmp 55) (Operand.tmp 54), type := 0, pos := "l2_words.go:487", after := #[{ on := 18, ground := Ground.data }, { on := 17, ground := Ground.data }, { on := 17, ground := Ground.chain }, { on := 0, ground := Ground.phase }, { on := 1, ground := Ground.phase }, { on := 2, ground := Ground.phase }, { on := 3, ground := Ground.phase }, { on := 4, ground := Ground.phase }, { on := 5, ground := Ground.phase }, { on := 6, ground := Ground.phase }, { on := 7, ground := Ground.phase }, { on := 8, ground := Ground.phase }, { on := 9, ground := Ground.phase }, { on := 10, ground := Ground.phase }, { on := 11, ground := Ground.phase }, { on := 12, ground := Ground.phase }, { on := 13, ground := Ground.phase }, { on := 14, ground := Ground.phase }, { on := 15, ground := Ground.phase }, { on := 16, ground := Ground.phase }, { on := 17, ground := Ground.phase }], guard := none }) rfl (fun K hK => ?_) AllReadyH.nil)
            have cy : w25.cell? ⟨gw, iN, none⟩ = some (.int .i64 (xs[iN]'(by omega))) := (W25.cellAt iN (by omega)).trans (ivals_get xs iN (by omega))
            have fy := W25.frozenAt iN
            have WQ := W25.stored iN (.int .i64 y)
            have W26 := WQ.1
            have HG : Hid (w25.grownBy (w25.setCell ⟨gw, iN, none⟩ (.int .i64 y)) (Value.slice (some ⟨gw, 0, none⟩) xs.length cw).ownBlock) := hide WQ.2
            rw [ivals_set] at W26
            have R26 := blk_other R25 W25 HG.out (by decide)
            have K26 := blk_other K25 W25 HG.out (by decide)
            have P26 := P25.other W25 HG.out (by decide)
            have H26 := H25.row W25 HG.out (by decide) (by have := H25.1; omega)
            have B26 := B25.grown HG.out B25.size (fun k hk => by have := (W25.lt k hk).1; omega)
            have HK26 : (w25.setCell ⟨gw, iN, none⟩ (.int .i64 y)).cell? ⟨bk, 0, none⟩ = some (.int .i64 o) ∧ (w25.setCell ⟨gw, iN, none⟩ (.int .i64 y)).cell? ⟨bk, 1, none⟩ = some (.int .i64 l) ∧ (w25.setCell ⟨gw, iN, none⟩ (.int .i64 y)).cell? ⟨bk, 2, none⟩ = some (.int .i64 m) ∧ (w25.setCell ⟨gw, iN, none⟩ (.int .i64 y)).cell? ⟨bk, 3, none⟩ = some (.slice A ps.length c) ∧ (w25.setCell ⟨gw, iN, none⟩ (.int .i64 y)).cell? ⟨bk, 4, none⟩ = some (.int .i64 b) ∧ (w25.setCell ⟨gw, iN, none⟩ (.int .i64 y)).cell? ⟨bk, 5, none⟩ = some (.int .i64 t) := ⟨K26.cell 0, K26.cell 1, K26.cell 2, K26.cell 3, K26.cell 4, K26.cell 5⟩
            clear WQ HG
            go_simp
            clear cy fy
            refine hK.out _ _ (by (try dsimp only); first | exact HK26) (fun hHeld => ?_)
            clear hK K
            try simp only [Act.put, List.setIfInBounds_toArray, List.set_cons_zero, List.set_cons_succ]
            refine wpAnyH_done (by kernel_rfl) ?_ _
            clear hHeld s11
            have a0 : (w25.setCell ⟨gw, iN, none⟩ (.int .i64 y)).cell? ⟨bk, 0, none⟩ = some (.int .i64 o) := K26.cell 0
            have a1 : (w25.setCell ⟨gw, iN, none⟩ (.int .i64 y)).cell? ⟨bk, 1, none⟩ = some (.int .i64 l) := K26.cell 1
            have a2 : (w25.setCell ⟨gw, iN, none⟩ (.int .i64 y)).cell? ⟨bk, 2, none⟩ = some (.int .i64 m) := K26.cell 2
            have a3 : (w25.setCell ⟨gw, iN, none⟩ (.int .i64 y)).cell? ⟨bk, 3, none⟩ = some (.slice A ps.length c) := K26.cell 3
            have a4 : (w25.setCell ⟨gw, iN, none⟩ (.int .i64 y)).cell? ⟨bk, 4, none⟩ = some (.int .i64 b) := K26.cell 4
            have a5 : (w25.setCell ⟨gw, iN, none⟩ (.int .i64 y)).cell? ⟨bk, 5, none⟩ = some (.int .i64 t) := K26.cell 5
            go_wp2_with fail
            refine (rd_l2Bad _ g _ w.heap.size o l m A c b t ps (w25.setCell ⟨gw, iN, none⟩ (.int .i64 y)) H26 (by omega) P26 B26.size hk hl0 hcp).mono ?_; rintro e w31 ⟨o, l, m, A, c, b, t, ps, rfl, hl, hcp, P31, ⟨p31, hp31, hr31⟩, hg31⟩
            have R31 := Blk.rd R26 H26 hg31 (by decide)
            have W31 := own_rd W26 H26 hg31 (by decide)
            have H31 := hr31
            have B31 := draw_past (Nat.le_refl _) B26 (by have := H26.1; omega) hg31
            clear R26 K26 P26 W26 H26 B26 hr31 hg31 a0 a1 a2 a3 a4 a5
            have r0 : w31.cell? ⟨w.heap.size, 0, none⟩ = some (.int .i64 0) := R31.cell 0
            have r1 : w31.cell? ⟨w.heap.size, 1, none⟩ = some (.int .i64 0) := R31.cell 1
            have r2 : w31.cell? ⟨w.heap.size, 2, none⟩ = some (.int .i64 0) := R31.cell 2
            have r3 : w31.cell? ⟨w.heap.size, 3, none⟩ = some (.slice none 0 0) := R31.cell 3
            have r4 : w31.cell? ⟨w.heap.size, 4, none⟩ = some (.int .i64 0) := R31.cell 4
            have r5 : w31.cell? ⟨w.heap.size, 5, none⟩ = some (.int .i64 0) := R31.cell 5
            have fr0 := R31.frozen 0
            have fr1 := R31.frozen 1
            have fr2 := R31.frozen 2
            have fr3 := R31.frozen 3
            have fr4 := R31.frozen 4
            have fr5 := R31.frozen 5
            go_wp2_with fail
            have q := blk6_set R31 (.int .i64 o) (.int .i64 l) (.int .i64 m) (.slice A ps.length c) (.int .i64 b) (.int .i64 t)
            have PF := P31.only (only6 w31 w.heap.size (.int .i64 o) (.int .i64 l) (.int .i64 m) (.slice A ps.length c) (.int .i64 b) (.int .i64 t)) R31 (by decide)
            have BF := below_set6 (g := w.heap.size) B31 (Nat.le_refl _) (.int .i64 o) (.int .i64 l) (.int .i64 m) (.slice A ps.length c) (.int .i64 b) (.int .i64 t)
            have WF := W31.kept (only6 w31 w.heap.size (.int .i64 o) (.int .i64 l) (.int .i64 m) (.slice A ps.length c) (.int .i64 b) (.int .i64 t)) (.inr (own_blk_ne W31 R31 (by decide)))
            have q0 := q.cell 0
            have q1 := q.cell 1
            have q2 := q.cell 2
            have q3 := q.cell 3
            have q4 := q.cell 4
            have q5 := q.cell 5
            exact bodyPost_ret (v := .tuple #[kv o l m A ps.length c b t, .slice (some ⟨gw, 0, none⟩) xs.length cw]) (by simp [results, Try.results73, go_sem, q0, q1, q2, q3, q4, q5]) rfl (drawkl_mk rfl hl hcp PF BF (by simp) (by simp; omega) WF hbk1)
          · have eu2 : (u2 == 0) = false := by rw [beq_eq_false_iff_ne]; exact hu2
            have a0 : w20.cell? ⟨bk, 0, none⟩ = some (.int .i64 o) := K20.cell 0
            have a1 : w20.cell? ⟨bk, 1, none⟩ = some (.int .i64 l) := K20.cell 1
            have a2 : w20.cell? ⟨bk, 2, none⟩ = some (.int .i64 m) := K20.cell 2
            have a3 : w20.cell? ⟨bk, 3, none⟩ = some (.slice A ps.length c) := K20.cell 3
            have a4 : w20.cell? ⟨bk, 4, none⟩ = some (.int .i64 b) := K20.cell 4
            have a5 : w20.cell? ⟨bk, 5, none⟩ = some (.int .i64 t) := K20.cell 5
            go_wp2_with fail
            refine (rd_l2Bad _ g _ w.heap.size o l m A c b t ps w20 H20 (by omega) P20 B20.size hk hl0 hcp).mono ?_; rintro e w31 ⟨o, l, m, A, c, b, t, ps, rfl, hl, hcp, P31, ⟨p31, hp31, hr31⟩, hg31⟩
            have R31 := Blk.rd R20 H20 hg31 (by decide)
            have W31 := own_rd W20 H20 hg31 (by decide)
            have H31 := hr31
            have B31 := draw_past (Nat.le_refl _) B20 (by have := H20.1; omega) hg31
            clear R20 K20 P20 W20 H20 B20 hr31 hg31 a0 a1 a2 a3 a4 a5
            have r0 : w31.cell? ⟨w.heap.size, 0, none⟩ = some (.int .i64 0) := R31.cell 0
            have r1 : w31.cell? ⟨w.heap.size, 1, none⟩ = some (.int .i64 0) := R31.cell 1
            have r2 : w31.cell? ⟨w.heap.size, 2, none⟩ = some (.int .i64 0) := R31.cell 2
            have r3 : w31.cell? ⟨w.heap.size, 3, none⟩ = some (.slice none 0 0) := R31.cell 3
            have r4 : w31.cell? ⟨w.heap.size, 4, none⟩ = some (.int .i64 0) := R31.cell 4
            have r5 : w31.cell? ⟨w.heap.size, 5, none⟩ = some (.int .i64 0) := R31.cell 5
            have fr0 := R31.frozen 0
            have fr1 := R31.frozen 1
            have fr2 := R31.frozen 2
            have fr3 := R31.frozen 3
            have fr4 := R31.frozen 4
            have fr5 := R31.frozen 5
            go_wp2_with fail
            have q := blk6_set R31 (.int .i64 o) (.int .i64 l) (.int .i64 m) (.slice A ps.length c) (.int .i64 b) (.int .i64 t)
            have PF := P31.only (only6 w31 w.heap.size (.int .i64 o) (.int .i64 l) (.int .i64 m) (.slice A ps.length c) (.int .i64 b) (.int .i64 t)) R31 (by decide)
            have BF := below_set6 (g := w.heap.size) B31 (Nat.le_refl _) (.int .i64 o) (.int .i64 l) (.int .i64 m) (.slice A ps.length c) (.int .i64 b) (.int .i64 t)
            have WF := W31.kept (only6 w31 w.heap.size (.int .i64 o) (.int .i64 l) (.int .i64 m) (.slice A ps.length c) (.int .i64 b) (.int .i64 t)) (.inr (own_blk_ne W31 R31 (by decide)))
            have q0 := q.cell 0
            have q1 := q.cell 1
            have q2 := q.cell 2
            have q3 := q.cell 3
            have q4 := q.cell 4
            have q5 := q.cell 5
            exact bodyPost_ret (v := .tuple #[kv o l m A ps.length c b t, .slice Aw xs.length cw]) (by simp [results, Try.results73, go_sem, q0, q1, q2, q3, q4, q5]) rfl (drawkl_mk rfl hl hcp PF BF rfl (by omega) WF hbk1)
        · have hx0I : ¬ (0 : Int) < (xs.length : Int) := by omega
          have a0 : w8.cell? ⟨bk, 0, none⟩ = some (.int .i64 o) := K8.cell 0
          have a1 : w8.cell? ⟨bk, 1, none⟩ = some (.int .i64 l) := K8.cell 1
          have a2 : w8.cell? ⟨bk, 2, none⟩ = some (.int .i64 m) := K8.cell 2
          have a3 : w8.cell? ⟨bk, 3, none⟩ = some (.slice A ps.length c) := K8.cell 3
          have a4 : w8.cell? ⟨bk, 4, none⟩ = some (.int .i64 b) := K8.cell 4
          have a5 : w8.cell? ⟨bk, 5, none⟩ = some (.int .i64 t) := K8.cell 5
          go_wp2_with fail
          refine (rd_l2Bad _ g _ w.heap.size o l m A c b t ps w8 H8 (by omega) P8 B8.size hk hl0 hcp).mono ?_; rintro e w31 ⟨o, l, m, A, c, b, t, ps, rfl, hl, hcp, P31, ⟨p31, hp31, hr31⟩, hg31⟩
          have R31 := Blk.rd R8 H8 hg31 (by decide)
          have W31 := own_rd W8 H8 hg31 (by decide)
          have H31 := hr31
          have B31 := draw_past (Nat.le_refl _) B8 (by have := H8.1; omega) hg31
          clear R8 K8 P8 W8 H8 B8 hr31 hg31 a0 a1 a2 a3 a4 a5
          have r0 : w31.cell? ⟨w.heap.size, 0, none⟩ = some (.int .i64 0) := R31.cell 0
          have r1 : w31.cell? ⟨w.heap.size, 1, none⟩ = some (.int .i64 0) := R31.cell 1
          have r2 : w31.cell? ⟨w.heap.size, 2, none⟩ = some (.int .i64 0) := R31.cell 2
          have r3 : w31.cell? ⟨w.heap.size, 3, none⟩ = some (.slice none 0 0) := R31.cell 3
          have r4 : w31.cell? ⟨w.heap.size, 4, none⟩ = some (.int .i64 0) := R31.cell 4
          have r5 : w31.cell? ⟨w.heap.size, 5, none⟩ = some (.int .i64 0) := R31.cell 5
          have fr0 := R31.frozen 0
          have fr1 := R31.frozen 1
          have fr2 := R31.frozen 2
          have fr3 := R31.frozen 3
          have fr4 := R31.frozen 4
          have fr5 := R31.frozen 5
          go_wp2_with fail
          have q := blk6_set R31 (.int .i64 o) (.int .i64 l) (.int .i64 m) (.slice A ps.length c) (.int .i64 b) (.int .i64 t)
          have PF := P31.only (only6 w31 w.heap.size (.int .i64 o) (.int .i64 l) (.int .i64 m) (.slice A ps.length c) (.int .i64 b) (.int .i64 t)) R31 (by decide)
          have BF := below_set6 (g := w.heap.size) B31 (Nat.le_refl _) (.int .i64 o) (.int .i64 l) (.int .i64 m) (.slice A ps.length c) (.int .i64 b) (.int .i64 t)
          have WF := W31.kept (only6 w31 w.heap.size (.int .i64 o) (.int .i64 l) (.int .i64 m) (.slice A ps.length c) (.int .i64 b) (.int .i64 t)) (.inr (own_blk_ne W31 R31 (by decide)))
          have q0 := q.cell 0
          have q1 := q.cell 1
          have q2 := q.cell 2
          have q3 := q.cell 3
          have q4 := q.cell 4
          have q5 := q.cell 5
          exact bodyPost_ret (v := .tuple #[kv o l m A ps.length c b t, .slice Aw xs.length cw]) (by simp [results, Try.results73, go_sem, q0, q1, q2, q3, q4, q5]) rfl (drawkl_mk rfl hl hcp PF BF rfl (by omega) WF hbk1)
  · have eu : (u == 0) = false := by rw [beq_eq_false_iff_ne]; exact hu
    by_cases hx0 : 0 < xs.length
    · have hx0I : (0 : Int) < (xs.length : Int) := by omega
      go_wp2_with fail
      refine (rd_pick _ g _ 10 _ H5 (by omega) (by omega) (by omega)).mono ?_; rintro e w20 ⟨u2, rfl, _, _, _, hr20, hg20⟩
      have R20 := Blk.rd R5 H5 hg20 (by decide)
      have K20 := Blk.rd K5 H5 hg20 (by decide)
      have P20 := OwnP.rd P5 H5 hg20
      have W20 := own_rd W5 H5 hg20 (by decide)
      have H20 := hr20
      have B20 := draw_past (Nat.le_refl _) B5 (by have := H5.1; omega) hg20
      clear R5 K5 P5 W5 H5 B5 hr20 hg20
      by_cases hu2 : u2 = 0
      · have eu2 : (u2 == 0) = true := by rw [hu2]; rfl
        obtain ⟨gw, cw2, hgw, _⟩ := own_shape1 W20 hx0
        injection hgw with hgw _ hcw
        subst hgw; subst hcw
        have s11 : w20.drew.cell? ⟨bk, 0, none⟩ = some (.int .i64 o) ∧ w20.drew.cell? ⟨bk, 1, none⟩ = some (.int .i64 l) ∧ w20.drew.cell? ⟨bk, 2, none⟩ = some (.int .i64 m) ∧ w20.drew.cell? ⟨bk, 3, none⟩ = some (.slice A ps.length c) ∧ w20.drew.cell? ⟨bk, 4, none⟩ = some (.int .i64 b) ∧ w20.drew.cell? ⟨bk, 5, none⟩ = some (.int .i64 t) := ⟨K20.cell 0, K20.cell 1, K20.cell 2, K20.cell 3, K20.cell 4, K20.cell 5⟩
        go_wp2_with fail
        refine wp_region_held_drew (S := (fun W => W.cell? ⟨bk, 0, none⟩ = some (.int .i64 o) ∧ W.cell? ⟨bk, 1, none⟩ = some (.int .i64 l) ∧ W.cell? ⟨bk, 2, none⟩ = some (.int .i64 m) ∧ W.cell? ⟨bk, 3, none⟩ = some (.slice A ps.length c) ∧ W.cell? ⟨bk, 4, none⟩ = some (.int .i64 b) ∧ W.cell? ⟨bk, 5, none⟩ = some (.int .i64 t))) (by kernel_rfl) (by first | assumption | exact s11) (fun hHeld => ?_)
        refine wpAnyH_take (i := 0) (oi := { dst := some 37, op := Op.move (Operand.tmp 6), type := 38, pos := "l2_words.go:487", after := #[], guard := none }) (v := ?_) rfl (by kernel_rfl) (by kernel_rfl) (by kernel_rfl) (fun _ _ _ h => h) (Or.inl ⟨by rfl, ?_⟩) (by assumption) ?_; rotate_left
        · intro W hW; (try dsimp only at hW); go_simp;  try (with_reducible rfl)
        try simp only [Act.put, List.setIfInBounds_toArray, List.set_cons_zero, List.set_cons_succ]
        refine wpAnyH_take (i := 1) (oi := { dst := some 38, op := Op.move (Operand.tmp 4), type := 82, pos := "l2_words.go:487", after := #[], guard := none }) (v := ?_) rfl (by kernel_rfl) (by kernel_rfl) (by kernel_rfl) (fun _ _ _ h => h) (Or.inl ⟨by rfl, ?_⟩) (by assumption) ?_; rotate_left
        · intro W hW; (try dsimp only at hW); go_simp;  try (with_reducible rfl)
        try simp only [Act.put, List.setIfInBounds_toArray, List.set_cons_zero, List.set_cons_succ]
        refine wpAnyH_take (i := 2) (oi := { dst := some 39, op := Op.move (Operand.tmp 6), type := 38, pos := "l2_words.go:487", after := #[], guard := none }) (v := ?_) rfl (by kernel_rfl) (by kernel_rfl) (by kernel_rfl) (fun _ _ _ h => h) (Or.inl ⟨by rfl, ?_⟩) (by assumption) ?_; rotate_left
        · intro W hW; (try dsimp only at hW); go_simp;  try (with_reducible rfl)
        try simp only [Act.put, List.setIfInBounds_toArray, List.set_cons_zero, List.set_cons_succ]
        refine wpAnyH_take (i := 3) (oi := { dst := some 40, op := Op.call { callee := Callee.builtin Builtin.len, args := #[Operand.tmp 39], argTypes := #[38] }, type := 3, pos := "l2_words.go:487", after := #[{ on := 2, ground := Ground.data }], guard := none }) (v := ?_) rfl (by kernel_rfl) (by kernel_rfl) (by kernel_rfl) (fun _ _ _ h => h) (Or.inl ⟨by rfl, ?_⟩) (by assumption) ?_; rotate_left
        · intro W hW; (try dsimp only at hW); go_simp;  try (with_reducible rfl)
        try simp only [Act.put, List.setIfInBounds_toArray, List.set_cons_zero, List.set_cons_succ]
        refine wpAnyH_take (i := 5) (oi := { dst := some 42, op := Op.move (Operand.tmp 4), type := 82, pos := "l2_words.go:487", after := #[], guard := none }) (v := ?_) rfl (by kernel_rfl) (by kernel_rfl) (by kernel_rfl) (fun _ _ _ h => h) (Or.inl ⟨by rfl, ?_⟩) (by assumption) ?_; rotate_left
        · intro W hW; (try dsimp only at hW); go_simp;  try (with_reducible rfl)
        try simp only [Act.put, List.setIfInBounds_toArray, List.set_cons_zero, List.set_cons_succ]
        refine wpAnyH_take (i := 6) (oi := { dst := some 43, op := Op.fieldAddr 31 (Operand.tmp 5) 0, type := 0, pos := "l2_words.go:487", after := #[], guard := none }) (v := ?_) rfl (by kernel_rfl) (by kernel_rfl) (by kernel_rfl) (fun _ _ _ h => h) (Or.inl ⟨by rfl, ?_⟩) (by assumption) ?_; rotate_left
        · intro W hW; (try dsimp only at hW); go_simp;  try (with_reducible rfl)
        try simp only [Act.put, List.setIfInBounds_toArray, List.set_cons_zero, List.set_cons_succ]
        refine wpAnyH_take (i := 7) (oi := { dst := some 44, op := Op.load 28 (Operand.tmp 43), type := 28, pos := "l2_words.go:487", after := #[{ on := 6, ground := Ground.data }], guard := none }) (v := ?_) rfl (by kernel_rfl) (by kernel_rfl) (by kernel_rfl) (fun _ _ _ h => h) (Or.inl ⟨by rfl, ?_⟩) (by assumption) ?_; rotate_left
        · intro W hW; (try dsimp only at hW); go_simp;  try (with_reducible rfl)
        try simp only [Act.put, List.setIfInBounds_toArray, List.set_cons_zero, List.set_cons_succ]
        refine wpAnyH_take (i := 9) (oi := { dst := some 46, op := Op.fieldAddr 31 (Operand.tmp 5) 0, type := 0, pos := "l2_words.go:487", after := #[], guard := none }) (v := ?_) rfl (by kernel_rfl) (by kernel_rfl) (by kernel_rfl) (fun _ _ _ h => h) (Or.inl ⟨by rfl, ?_⟩) (by assumption) ?_; rotate_left
        · intro W hW; (try dsimp only at hW); go_simp;  try (with_reducible rfl)
        try simp only [Act.put, List.setIfInBounds_toArray, List.set_cons_zero, List.set_cons_succ]
        refine wpAnyH_take (i := 10) (oi := { dst := some 47, op := Op.load 28 (Operand.tmp 46), type := 28, pos := "l2_words.go:487", after := #[{ on := 9, ground := Ground.data }], guard := none }) (v := ?_) rfl (by kernel_rfl) (by kernel_rfl) (by kernel_rfl) (fun _ _ _ h => h) (Or.inl ⟨by rfl, ?_⟩) (by assumption) ?_; rotate_left
        · intro W hW; (try dsimp only at hW); go_simp;  try (with_reducible rfl)
        try simp only [Act.put, List.setIfInBounds_toArray, List.set_cons_zero, List.set_cons_succ]
        refine wpAnyH_take (i := 12) (oi := { dst := some 49, op := Op.fieldAddr 31 (Operand.tmp 5) 0, type := 0, pos := "l2_words.go:487", after := #[], guard := none }) (v := ?_) rfl (by kernel_rfl) (by kernel_rfl) (by kernel_rfl) (fun _ _ _ h => h) (Or.inl ⟨by rfl, ?_⟩) (by assumption) ?_; rotate_left
        · intro W hW; (try dsimp only at hW); go_simp;  try (with_reducible rfl)
        try simp only [Act.put, List.setIfInBounds_toArray, List.set_cons_zero, List.set_cons_succ]
        refine wpAnyH_take (i := 13) (oi := { dst := some 50, op := Op.load 28 (Operand.tmp 49), type := 28, pos := "l2_words.go:487", after := #[{ on := 12, ground := Ground.data }], guard := none }) (v := ?_) rfl (by kernel_rfl) (by kernel_rfl) (by kernel_rfl) (fun _ _ _ h => h) (Or.inl ⟨by rfl, ?_⟩) (by assumption) ?_; rotate_left
        · intro W hW; (try dsimp only at hW); go_simp;  try (with_reducible rfl)
        try simp only [Act.put, List.setIfInBounds_toArray, List.set_cons_zero, List.set_cons_succ]
        refine wpAnyH_ready (rs := [4]) (by kernel_rfl) (by simp) (AllReadyH.cons (i := 4) (o := { dst := some 41, op := Op.call { callee := Callee.value (Operand.func 85), args := #[Operand.tmp 38, Operand.tmp 40], argTypes := #[82, 3] }, type := 3, pos := "l2_words.go:487", after := #[{ on := 1, ground := Ground.data }, { on := 3, ground := Ground.data }], guard := none }) rfl (fun K hK => ?_) AllReadyH.nil)
        go_simp
        refine (rd_pick _ g _ (xs.length : Int) _ (Rd.drew H20) (by omega) (by omega) (by omega)).mono ?_; rintro e w21 ⟨iv, rfl, hi0, hi1, _, hr21, hg21⟩
        have R21 := Blk.rd (Blk.drew R20) (Rd.drew H20) hg21 (by decide)
        have K21 := Blk.rd (Blk.drew K20) (Rd.drew H20) hg21 (by decide)
        have P21 := OwnP.rd (OwnP.below P20 (Below.refl _ _).drew) (Rd.drew H20) hg21
        have W21 := own_rd (own_below W20 (Below.refl _ _).drew) (Rd.drew H20) hg21 (by decide)
        have H21 := hr21
        have B21 := draw_past (Nat.le_refl _) B20.drew (by have := H20.1; omega) hg21
        have hi1 := hi1 (by omega)
        obtain ⟨iN, rfl⟩ := Int.eq_ofNat_of_zero_le hi0
        have HK21 : w21.cell? ⟨bk, 0, none⟩ = some (.int .i64 o) ∧ w21.cell? ⟨bk, 1, none⟩ = some (.int .i64 l) ∧ w21.cell? ⟨bk, 2, none⟩ = some (.int .i64 m) ∧ w21.cell? ⟨bk, 3, none⟩ = some (.slice A ps.length c) ∧ w21.cell? ⟨bk, 4, none⟩ = some (.int .i64 b) ∧ w21.cell? ⟨bk, 5, none⟩ = some (.int .i64 t) := ⟨K21.cell 0, K21.cell 1, K21.cell 2, K21.cell 3, K21.cell 4, K21.cell 5⟩
        try go_wp2_with fail
        refine hK.out _ _ (by (try dsimp only); first | exact HK21) (fun hHeld => ?_)
        clear hK K
        try simp only [Act.put, List.setIfInBounds_toArray, List.set_cons_zero, List.set_cons_succ]
        refine wpAnyH_ready (rs := [8]) (by kernel_rfl) (by simp) (AllReadyH.cons (i := 8) (o := { dst := some 45, op := Op.call { callee := Callee.value (Operand.func 87), args := #[Operand.tmp 44], argTypes := #[28] }, type := 3, pos := "l2_words.go:487", after := #[{ on := 7, ground := Ground.data }, { on := 4, ground := Ground.chain }], guard := none }) rfl (fun K hK => ?_) AllReadyH.nil)
        go_simp
        refine ((unhide CE) _).mono ?_; rintro e w22 ⟨rfl, hb22⟩
        have R22 := Blk.below R21 hb22 R21.lt
        have K22 := Blk.below K21 hb22 K21.lt
        have P22 := OwnP.below P21 hb22
        have W22 := own_below W21 hb22
        have H22 := Rd.below H21 hb22
        have B22 := below_next (Nat.le_refl _) B21 hb22
        have HK22 : w22.cell? ⟨bk, 0, none⟩ = some (.int .i64 o) ∧ w22.cell? ⟨bk, 1, none⟩ = some (.int .i64 l) ∧ w22.cell? ⟨bk, 2, none⟩ = some (.int .i64 m) ∧ w22.cell? ⟨bk, 3, none⟩ = some (.slice A ps.length c) ∧ w22.cell? ⟨bk, 4, none⟩ = some (.int .i64 b) ∧ w22.cell? ⟨bk, 5, none⟩ = some (.int .i64 t) := ⟨K22.cell 0, K22.cell 1, K22.cell 2, K22.cell 3, K22.cell 4, K22.cell 5⟩
        try go_wp2_with fail
        refine hK.out _ _ (by (try dsimp only); first | exact HK22) (fun hHeld => ?_)
        clear hK K
        try simp only [Act.put, List.setIfInBounds_toArray, List.set_cons_zero, List.set_cons_succ]
        refine wpAnyH_ready (rs := [11]) (by kernel_rfl) (by simp) (AllReadyH.cons (i := 11) (o := { dst := some 48, op := Op.call { callee := Callee.value (Operand.func 95), args := #[Operand.tmp 47], argTypes := #[28] }, type := 3, pos := "l2_words.go:487", after := #[{ on := 10, ground := Ground.data }, { on := 8, ground := Ground.chain }], guard := none }) rfl (fun K hK => ?_) AllReadyH.nil)
        go_simp
        refine ((unhide CL) _).mono ?_; rintro e w23 ⟨rfl, hb23⟩
        have R23 := Blk.below R22 hb23 R22.lt
        have K23 := Blk.below K22 hb23 K22.lt
        have P23 := OwnP.below P22 hb23
        have W23 := own_below W22 hb23
        have H23 := Rd.below H22 hb23
        have B23 := below_next (Nat.le_refl _) B22 hb23
        have HK23 : w23.cell? ⟨bk, 0, none⟩ = some (.int .i64 o) ∧ w23.cell? ⟨bk, 1, none⟩ = some (.int .i64 l) ∧ w23.cell? ⟨bk, 2, none⟩ = some (.int .i64 m) ∧ w23.cell? ⟨bk, 3, none⟩ = some (.slice A ps.length c) ∧ w23.cell? ⟨bk, 4, none⟩ = some (.int .i64 b) ∧ w23.cell? ⟨bk, 5, none⟩ = some (.int .i64 t) := ⟨K23.cell 0, K23.cell 1, K23.cell 2, K23.cell 3, K23.cell 4, K23.cell 5⟩
        try go_wp2_with fail
        refine hK.out _ _ (by (try dsimp only); first | exact HK23) (fun hHeld => ?_)
        clear hK K
        try simp only [Act.put, List.setIfInBounds_toArray, List.set_cons_zero, List.set_cons_succ]
        refine wpAnyH_ready (rs := [14]) (by kernel_rfl) (by simp) (AllReadyH.cons (i := 14) (o := { dst := some 51, op := Op.call { callee := Callee.value (Operand.func 95), args := #[Operand.tmp 50], argTypes := #[28] }, type := 3, pos := "l2_words.go:487", after := #[{ on := 13, ground := Ground.data }, { on := 11, ground := Ground.chain }], guard := none }) rfl (fun K hK => ?_) AllReadyH.nil)
        go_simp
        refine ((unhide CL) _).mono ?_; rintro e w24 ⟨rfl, hb24⟩
        have R24 := Blk.below R23 hb24 R23.lt
        have K24 := Blk.below K23 hb24 K23.lt
        have P24 := OwnP.below P23 hb24
        have W24 := own_below W23 hb24
        have H24 := Rd.below H23 hb24
        have B24 := below_next (Nat.le_refl _) B23 hb24
        have HK24 : w24.cell? ⟨bk, 0, none⟩ = some (.int .i64 o) ∧ w24.cell? ⟨bk, 1, none⟩ = some (.int .i64 l) ∧ w24.cell? ⟨bk, 2, none⟩ = some (.int .i64 m) ∧ w24.cell? ⟨bk, 3, none⟩ = some (.slice A ps.length c) ∧ w24.cell? ⟨bk, 4, none⟩ = some (.int .i64 b) ∧ w24.cell? ⟨bk, 5, none⟩ = some (.int .i64 t) := ⟨K24.cell 0, K24.cell 1, K24.cell 2, K24.cell 3, K24.cell 4, K24.cell 5⟩
        try go_wp2_with fail
        refine hK.out _ _ (by (try dsimp only); first | exact HK24) (fun hHeld => ?_)
        clear hK K
        try simp only [Act.put, List.setIfInBounds_toArray, List.set_cons_zero, List.set_cons_succ]
        refine wpAnyH_take (i := 15) (oi := { dst := some 52, op := Op.binOp BinOp.add 3 (Operand.tmp 51) (Operand.const (Value.int IntKind.i64 1)) 3, type := 3, pos := "l2_words.go:487", after := #[{ on := 14, ground := Ground.data }], guard := none }) (v := ?_) rfl (by kernel_rfl) (by kernel_rfl) (by kernel_rfl) (fun _ _ _ h => h) (Or.inl ⟨by rfl, ?_⟩) (by assumption) ?_; rotate_left
        · intro W hW; (try dsimp only at hW); go_simp;  try (with_reducible rfl)
        try simp only [Act.put, List.setIfInBounds_toArray, List.set_cons_zero, List.set_cons_succ]
        refine wpAnyH_ready (rs := [16]) (by kernel_rfl) (by simp) (AllReadyH.cons (i := 16) (o := { dst := some 53, op := Op.buildSlice 38 4 #[(0, Operand.const (Value.int IntKind.i64 (-1))), (1, Operand.tmp 45), (2, Operand.tmp 48), (3, Operand.tmp 52)], type := 38, pos := "l2_words.go:487", after := #[{ on := 8, ground := Ground.data }, { on := 11, ground := Ground.data }, { on := 15, ground := Ground.data }], guard := none }) rfl (fun K hK => ?_) AllReadyH.nil)
        go_simp
        have BA : Below w24.heap.size w24 (w24.alloc (.cells #[.int .i64 (-1), .int .i64 (Sx.two l + 1), .int .i64 (Sx.two m - 1), .int .i64 (Sx.two m)] 3)) := (Below.refl _ _).alloc (Nat.le_refl _) _
        refine hK.out _ _ (by (try dsimp only); first | exact keepB6 hHeld BA) (fun hHeld => ?_)
        clear hK K
        try simp only [Act.put, List.setIfInBounds_toArray, List.set_cons_zero, List.set_cons_succ]
        refine wpAnyH_ready (rs := [17]) (by kernel_rfl) (by simp) (AllReadyH.cons (i := 17) (o := { dst := some 54, op := Op.call { callee := Callee.value (Operand.func 86), args := #[Operand.tmp 42, Operand.tmp 53], argTypes := #[82, 38] }, type := 3, pos := "l2_words.go:487", after := #[{ on := 5, ground := Ground.data }, { on := 16, ground := Ground.data }, { on := 14, ground := Ground.chain }], guard := none }) rfl (fun K hK => ?_) AllReadyH.nil)
        go_simp
        refine (num_list [-1, Sx.two l + 1, Sx.two m - 1, Sx.two m] 3 H24 (by omega) (by simp) (by simp) (Q := fun _ => True) (fun _ _ => trivial)).mono ?_; rintro e w25 ⟨y, rfl, _, hr25, hg25⟩
        have R25 := Blk.rd R24 H24 hg25 (by decide)
        have K25 := Blk.rd K24 H24 hg25 (by decide)
        have P25 := OwnP.rd P24 H24 hg25
        have W25 := own_rd W24 H24 hg25 (by decide)
        have H25 := hr25
        have B25 := draw_past (Nat.le_refl _) B24 (by have := H24.1; omega) hg25
        have HK25 : w25.cell? ⟨bk, 0, none⟩ = some (.int .i64 o) ∧ w25.cell? ⟨bk, 1, none⟩ = some (.int .i64 l) ∧ w25.cell? ⟨bk, 2, none⟩ = some (.int .i64 m) ∧ w25.cell? ⟨bk, 3, none⟩ = some (.slice A ps.length c) ∧ w25.cell? ⟨bk, 4, none⟩ = some (.int .i64 b) ∧ w25.cell? ⟨bk, 5, none⟩ = some (.int .i64 t) := ⟨K25.cell 0, K25.cell 1, K25.cell 2, K25.cell 3, K25.cell 4, K25.cell 5⟩
        try go_wp2_with fail
        refine hK.out _ _ (by (try dsimp only); first | exact HK25) (fun hHeld => ?_)
        clear hK K
        try simp only [Act.put, List.setIfInBounds_toArray, List.set_cons_zero, List.set_cons_succ]
        refine wpAnyH_take (i := 18) (oi := { dst := some 55, op := Op.indexAddr 38 (Operand.tmp 37) (Operand.tmp 41), type := 0, pos := "l2_words.go:487", after := #[{ on := 0, ground := Ground.data }, { on := 4, ground := Ground.data }, { on := 0, ground := Ground.phase }, { on := 1, ground := Ground.phase }, { on := 2, ground := Ground.phase }, { on := 3, ground := Ground.phase }, { on := 4, ground := Ground.phase }, { on := 5, ground := Ground.phase }, { on := 6, ground := Ground.phase }, { on := 7, ground := Ground.phase }, { on := 8, ground := Ground.phase }, { on := 9, ground := Ground.phase }, { on := 10, ground := Ground.phase }, { on := 11, ground := Ground.phase }, { on := 12, ground := Ground.phase }, { on := 13, ground := Ground.phase }, { on := 14, ground := Ground.phase }, { on := 15, ground := Ground.phase }, { on := 16, ground := Ground.phase }, { on := 17, ground := Ground.phase }], guard := none }) (v := ?_) rfl (by kernel_rfl) (by kernel_rfl) (by kernel_rfl) (fun _ _ _ h => h) (Or.inl ⟨by rfl, ?_⟩) (by assumption) ?_; rotate_left
        · intro W hW; (try dsimp only at hW); go_simp;  try (with_reducible rfl)
        try simp only [Act.put, List.setIfInBounds_toArray, List.set_cons_zero, List.set_cons_succ]
        refine wpAnyH_ready (rs := [19]) (by kernel_rfl) (by simp) (AllReadyH.cons (i := 19) (o := { dst := none, op := Op.store 3 (Operand.tmp 55) (Operand.tmp 54), type := 0, pos := "l2_words.go:487", after := #[{ on := 18, ground := Ground.data }, { on := 17, ground := Ground.data }, { on := 17, ground := Ground.chain }, { on := 0, ground := Ground.phase }, { on := 1, ground := Ground.phase }, { on := 2, ground := Ground.phase }, { on := 3, ground := Ground.phase }, { on := 4, ground := Ground.phase }, { on := 5, ground := Ground.phase }, { on := 6, ground := Ground.phase }, { on := 7, ground := Ground.phase }, { on := 8, ground := Ground.phase }, { on := 9, ground := Ground.phase }, { on := 10, ground := Ground.phase }, { on := 11, ground := Ground.phase }, { on := 12, ground := Ground.phase }, { on := 13, ground := Ground.phase }, { on := 14, ground := Ground.phase }, { on := 15, ground := Ground.phase }, { on := 16, ground := Ground.phase }, { on := 17, ground := Ground.phase }], guard := none }) rfl (fun K hK => ?_) AllReadyH.nil)
        have cy : w25.cell? ⟨gw, iN, none⟩ = some (.int .i64 (xs[iN]'(by omega))) := (W25.cellAt iN (by omega)).trans (ivals_get xs iN (by omega))
        have fy := W25.frozenAt iN
        have WQ := W25.stored iN (.int .i64 y)
        have W26 := WQ.1
        have HG : Hid (w25.grownBy (w25.setCell ⟨gw, iN, none⟩ (.int .i64 y)) (Value.slice (some ⟨gw, 0, none⟩) xs.length cw).ownBlock) := hide WQ.2
        rw [ivals_set] at W26
        have R26 := blk_other R25 W25 HG.out (by decide)
        have K26 := blk_other K25 W25 HG.out (by decide)
        have P26 := P25.other W25 HG.out (by decide)
        have H26 := H25.row W25 HG.out (by decide) (by have := H25.1; omega)
        have B26 := B25.grown HG.out B25.size (fun k hk => by have := (W25.lt k hk).1; omega)
        have HK26 : (w25.setCell ⟨gw, iN, none⟩ (.int .i64 y)).cell? ⟨bk, 0, none⟩ = some (.int .i64 o) ∧ (w25.setCell ⟨gw, iN, none⟩ (.int .i64 y)).cell? ⟨bk, 1, none⟩ = some (.int .i64 l) ∧ (w25.setCell ⟨gw, iN, none⟩ (.int .i64 y)).cell? ⟨bk, 2, none⟩ = some (.int .i64 m) ∧ (w25.setCell ⟨gw, iN, none⟩ (.int .i64 y)).cell? ⟨bk, 3, none⟩ = some (.slice A ps.length c) ∧ (w25.setCell ⟨gw, iN, none⟩ (.int .i64 y)).cell? ⟨bk, 4, none⟩ = some (.int .i64 b) ∧ (w25.setCell ⟨gw, iN, none⟩ (.int .i64 y)).cell? ⟨bk, 5, none⟩ = some (.int .i64 t) := ⟨K26.cell 0, K26.cell 1, K26.cell 2, K26.cell 3, K26.cell 4, K26.cell 5⟩
        clear WQ HG
        go_simp
        clear cy fy
        refine hK.out _ _ (by (try dsimp only); first | exact HK26) (fun hHeld => ?_)
        clear hK K
        try simp only [Act.put, List.setIfInBounds_toArray, List.set_cons_zero, List.set_cons_succ]
        refine wpAnyH_done (by kernel_rfl) ?_ _
        clear hHeld s11
        have a0 : (w25.setCell ⟨gw, iN, none⟩ (.int .i64 y)).cell? ⟨bk, 0, none⟩ = some (.int .i64 o) := K26.cell 0
        have a1 : (w25.setCell ⟨gw, iN, none⟩ (.int .i64 y)).cell? ⟨bk, 1, none⟩ = some (.int .i64 l) := K26.cell 1
        have a2 : (w25.setCell ⟨gw, iN, none⟩ (.int .i64 y)).cell? ⟨bk, 2, none⟩ = some (.int .i64 m) := K26.cell 2
        have a3 : (w25.setCell ⟨gw, iN, none⟩ (.int .i64 y)).cell? ⟨bk, 3, none⟩ = some (.slice A ps.length c) := K26.cell 3
        have a4 : (w25.setCell ⟨gw, iN, none⟩ (.int .i64 y)).cell? ⟨bk, 4, none⟩ = some (.int .i64 b) := K26.cell 4
        have a5 : (w25.setCell ⟨gw, iN, none⟩ (.int .i64 y)).cell? ⟨bk, 5, none⟩ = some (.int .i64 t) := K26.cell 5
        go_wp2_with fail
        refine (rd_l2Bad _ g _ w.heap.size o l m A c b t ps (w25.setCell ⟨gw, iN, none⟩ (.int .i64 y)) H26 (by omega) P26 B26.size hk hl0 hcp).mono ?_; rintro e w31 ⟨o, l, m, A, c, b, t, ps, rfl, hl, hcp, P31, ⟨p31, hp31, hr31⟩, hg31⟩
        have R31 := Blk.rd R26 H26 hg31 (by decide)
        have W31 := own_rd W26 H26 hg31 (by decide)
        have H31 := hr31
        have B31 := draw_past (Nat.le_refl _) B26 (by have := H26.1; omega) hg31
        clear R26 K26 P26 W26 H26 B26 hr31 hg31 a0 a1 a2 a3 a4 a5
        have r0 : w31.cell? ⟨w.heap.size, 0, none⟩ = some (.int .i64 0) := R31.cell 0
        have r1 : w31.cell? ⟨w.heap.size, 1, none⟩ = some (.int .i64 0) := R31.cell 1
        have r2 : w31.cell? ⟨w.heap.size, 2, none⟩ = some (.int .i64 0) := R31.cell 2
        have r3 : w31.cell? ⟨w.heap.size, 3, none⟩ = some (.slice none 0 0) := R31.cell 3
        have r4 : w31.cell? ⟨w.heap.size, 4, none⟩ = some (.int .i64 0) := R31.cell 4
        have r5 : w31.cell? ⟨w.heap.size, 5, none⟩ = some (.int .i64 0) := R31.cell 5
        have fr0 := R31.frozen 0
        have fr1 := R31.frozen 1
        have fr2 := R31.frozen 2
        have fr3 := R31.frozen 3
        have fr4 := R31.frozen 4
        have fr5 := R31.frozen 5
        go_wp2_with fail
        have q := blk6_set R31 (.int .i64 o) (.int .i64 l) (.int .i64 m) (.slice A ps.length c) (.int .i64 b) (.int .i64 t)
        have PF := P31.only (only6 w31 w.heap.size (.int .i64 o) (.int .i64 l) (.int .i64 m) (.slice A ps.length c) (.int .i64 b) (.int .i64 t)) R31 (by decide)
        have BF := below_set6 (g := w.heap.size) B31 (Nat.le_refl _) (.int .i64 o) (.int .i64 l) (.int .i64 m) (.slice A ps.length c) (.int .i64 b) (.int .i64 t)
        have WF := W31.kept (only6 w31 w.heap.size (.int .i64 o) (.int .i64 l) (.int .i64 m) (.slice A ps.length c) (.int .i64 b) (.int .i64 t)) (.inr (own_blk_ne W31 R31 (by decide)))
        have q0 := q.cell 0
        have q1 := q.cell 1
        have q2 := q.cell 2
        have q3 := q.cell 3
        have q4 := q.cell 4
        have q5 := q.cell 5
        exact bodyPost_ret (v := .tuple #[kv o l m A ps.length c b t, .slice (some ⟨gw, 0, none⟩) xs.length cw]) (by simp [results, Try.results73, go_sem, q0, q1, q2, q3, q4, q5]) rfl (drawkl_mk rfl hl hcp PF BF (by simp) (by simp; omega) WF hbk1)
      · have eu2 : (u2 == 0) = false := by rw [beq_eq_false_iff_ne]; exact hu2
        have a0 : w20.cell? ⟨bk, 0, none⟩ = some (.int .i64 o) := K20.cell 0
        have a1 : w20.cell? ⟨bk, 1, none⟩ = some (.int .i64 l) := K20.cell 1
        have a2 : w20.cell? ⟨bk, 2, none⟩ = some (.int .i64 m) := K20.cell 2
        have a3 : w20.cell? ⟨bk, 3, none⟩ = some (.slice A ps.length c) := K20.cell 3
        have a4 : w20.cell? ⟨bk, 4, none⟩ = some (.int .i64 b) := K20.cell 4
        have a5 : w20.cell? ⟨bk, 5, none⟩ = some (.int .i64 t) := K20.cell 5
        go_wp2_with fail
        refine (rd_l2Bad _ g _ w.heap.size o l m A c b t ps w20 H20 (by omega) P20 B20.size hk hl0 hcp).mono ?_; rintro e w31 ⟨o, l, m, A, c, b, t, ps, rfl, hl, hcp, P31, ⟨p31, hp31, hr31⟩, hg31⟩
        have R31 := Blk.rd R20 H20 hg31 (by decide)
        have W31 := own_rd W20 H20 hg31 (by decide)
        have H31 := hr31
        have B31 := draw_past (Nat.le_refl _) B20 (by have := H20.1; omega) hg31
        clear R20 K20 P20 W20 H20 B20 hr31 hg31 a0 a1 a2 a3 a4 a5
        have r0 : w31.cell? ⟨w.heap.size, 0, none⟩ = some (.int .i64 0) := R31.cell 0
        have r1 : w31.cell? ⟨w.heap.size, 1, none⟩ = some (.int .i64 0) := R31.cell 1
        have r2 : w31.cell? ⟨w.heap.size, 2, none⟩ = some (.int .i64 0) := R31.cell 2
        have r3 : w31.cell? ⟨w.heap.size, 3, none⟩ = some (.slice none 0 0) := R31.cell 3
        have r4 : w31.cell? ⟨w.heap.size, 4, none⟩ = some (.int .i64 0) := R31.cell 4
        have r5 : w31.cell? ⟨w.heap.size, 5, none⟩ = some (.int .i64 0) := R31.cell 5
        have fr0 := R31.frozen 0
        have fr1 := R31.frozen 1
        have fr2 := R31.frozen 2
        have fr3 := R31.frozen 3
        have fr4 := R31.frozen 4
        have fr5 := R31.frozen 5
        go_wp2_with fail
        have q := blk6_set R31 (.int .i64 o) (.int .i64 l) (.int .i64 m) (.slice A ps.length c) (.int .i64 b) (.int .i64 t)
        have PF := P31.only (only6 w31 w.heap.size (.int .i64 o) (.int .i64 l) (.int .i64 m) (.slice A ps.length c) (.int .i64 b) (.int .i64 t)) R31 (by decide)
        have BF := below_set6 (g := w.heap.size) B31 (Nat.le_refl _) (.int .i64 o) (.int .i64 l) (.int .i64 m) (.slice A ps.length c) (.int .i64 b) (.int .i64 t)
        have WF := W31.kept (only6 w31 w.heap.size (.int .i64 o) (.int .i64 l) (.int .i64 m) (.slice A ps.length c) (.int .i64 b) (.int .i64 t)) (.inr (own_blk_ne W31 R31 (by decide)))
        have q0 := q.cell 0
        have q1 := q.cell 1
        have q2 := q.cell 2
        have q3 := q.cell 3
        have q4 := q.cell 4
        have q5 := q.cell 5
        exact bodyPost_ret (v := .tuple #[kv o l m A ps.length c b t, .slice Aw xs.length cw]) (by simp [results, Try.results73, go_sem, q0, q1, q2, q3, q4, q5]) rfl (drawkl_mk rfl hl hcp PF BF rfl (by omega) WF hbk1)
    · have hx0I : ¬ (0 : Int) < (xs.length : Int) := by omega
      have a0 : w5.cell? ⟨bk, 0, none⟩ = some (.int .i64 o) := K5.cell 0
      have a1 : w5.cell? ⟨bk, 1, none⟩ = some (.int .i64 l) := K5.cell 1
      have a2 : w5.cell? ⟨bk, 2, none⟩ = some (.int .i64 m) := K5.cell 2
      have a3 : w5.cell? ⟨bk, 3, none⟩ = some (.slice A ps.length c) := K5.cell 3
      have a4 : w5.cell? ⟨bk, 4, none⟩ = some (.int .i64 b) := K5.cell 4
      have a5 : w5.cell? ⟨bk, 5, none⟩ = some (.int .i64 t) := K5.cell 5
      go_wp2_with fail
      refine (rd_l2Bad _ g _ w.heap.size o l m A c b t ps w5 H5 (by omega) P5 B5.size hk hl0 hcp).mono ?_; rintro e w31 ⟨o, l, m, A, c, b, t, ps, rfl, hl, hcp, P31, ⟨p31, hp31, hr31⟩, hg31⟩
      have R31 := Blk.rd R5 H5 hg31 (by decide)
      have W31 := own_rd W5 H5 hg31 (by decide)
      have H31 := hr31
      have B31 := draw_past (Nat.le_refl _) B5 (by have := H5.1; omega) hg31
      clear R5 K5 P5 W5 H5 B5 hr31 hg31 a0 a1 a2 a3 a4 a5
      have r0 : w31.cell? ⟨w.heap.size, 0, none⟩ = some (.int .i64 0) := R31.cell 0
      have r1 : w31.cell? ⟨w.heap.size, 1, none⟩ = some (.int .i64 0) := R31.cell 1
      have r2 : w31.cell? ⟨w.heap.size, 2, none⟩ = some (.int .i64 0) := R31.cell 2
      have r3 : w31.cell? ⟨w.heap.size, 3, none⟩ = some (.slice none 0 0) := R31.cell 3
      have r4 : w31.cell? ⟨w.heap.size, 4, none⟩ = some (.int .i64 0) := R31.cell 4
      have r5 : w31.cell? ⟨w.heap.size, 5, none⟩ = some (.int .i64 0) := R31.cell 5
      have fr0 := R31.frozen 0
      have fr1 := R31.frozen 1
      have fr2 := R31.frozen 2
      have fr3 := R31.frozen 3
      have fr4 := R31.frozen 4
      have fr5 := R31.frozen 5
      go_wp2_with fail
      have q := blk6_set R31 (.int .i64 o) (.int .i64 l) (.int .i64 m) (.slice A ps.length c) (.int .i64 b) (.int .i64 t)
      have PF := P31.only (only6 w31 w.heap.size (.int .i64 o) (.int .i64 l) (.int .i64 m) (.slice A ps.length c) (.int .i64 b) (.int .i64 t)) R31 (by decide)
      have BF := below_set6 (g := w.heap.size) B31 (Nat.le_refl _) (.int .i64 o) (.int .i64 l) (.int .i64 m) (.slice A ps.length c) (.int .i64 b) (.int .i64 t)
      have WF := W31.kept (only6 w31 w.heap.size (.int .i64 o) (.int .i64 l) (.int .i64 m) (.slice A ps.length c) (.int .i64 b) (.int .i64 t)) (.inr (own_blk_ne W31 R31 (by decide)))
      have q0 := q.cell 0
      have q1 := q.cell 1
      have q2 := q.cell 2
      have q3 := q.cell 3
      have q4 := q.cell 4
      have q5 := q.cell 5
      exact bodyPost_ret (v := .tuple #[kv o l m A ps.length c b t, .slice Aw xs.length cw]) (by simp [results, Try.results73, go_sem, q0, q1, q2, q3, q4, q5]) rfl (drawkl_mk rfl hl hcp PF BF rfl (by omega) WF hbk1)

set_option maxRecDepth 100000 in
set_option maxHeartbeats 2000000 in
theorem draw_CodesData (A : Option Addr) (n c : Nat) (w : World) (h : Src w w.heap.size A n) (hn : n ≤ 1048576) (hc : n ≤ c) (hcm : c ≤ maxLen) :
    Calls Try.prog 31 #[.slice A n c] w (DrawKL w) := by
  have HD := hide (draw_CodesValid A n c (w.alloc (.cells #[.int .i64 0, .int .i64 0, .int .i64 0, .slice none 0 0, .int .i64 0, .int .i64 0] 31)) (h.next ((Below.refl _ _).alloc (Nat.le_refl _) (.cells #[.int .i64 0, .int .i64 0, .int .i64 0, .slice none 0 0, .int .i64 0, .int .i64 0] 31))) hn hc hcm)
  have B0 : Below w.heap.size w (w.alloc (.cells #[.int .i64 0, .int .i64 0, .int .i64 0, .slice none 0 0, .int .i64 0, .int .i64 0] 31)) := (Below.refl _ _).alloc (Nat.le_refl _) _
  have R0 := Blk.new w 31 #[.int .i64 0, .int .i64 0, .int .i64 0, .slice none 0 0, .int .i64 0, .int .i64 0]
  have s0 := B0.size
  clear h
  go_enter Try.func31, Try.ntmps31
  go_wp2_with fail
  refine (unhide HD).mono ?_; rintro e w1 ⟨o, l, m, A3, c3, b, t, ps, A2, c2, xs, rfl, hl, hcp, hx, hxc, P1, I1, hb1⟩
  have R1 := R0.below hb1 R0.lt
  have B1 := below_next (Nat.le_refl _) B0 hb1
  have P1 := P1.mono s0
  have I1 := I1.mono' s0
  clear HD R0 B0 hb1
  have r0 : w1.cell? ⟨w.heap.size, 0, none⟩ = some (.int .i64 0) := R1.cell 0
  have r1 : w1.cell? ⟨w.heap.size, 1, none⟩ = some (.int .i64 0) := R1.cell 1
  have r2 : w1.cell? ⟨w.heap.size, 2, none⟩ = some (.int .i64 0) := R1.cell 2
  have r3 : w1.cell? ⟨w.heap.size, 3, none⟩ = some (.slice none 0 0) := R1.cell 3
  have r4 : w1.cell? ⟨w.heap.size, 4, none⟩ = some (.int .i64 0) := R1.cell 4
  have r5 : w1.cell? ⟨w.heap.size, 5, none⟩ = some (.int .i64 0) := R1.cell 5
  have fr0 := R1.frozen 0
  have fr1 := R1.frozen 1
  have fr2 := R1.frozen 2
  have fr3 := R1.frozen 3
  have fr4 := R1.frozen 4
  have fr5 := R1.frozen 5
  go_wp2_with fail
  have q := blk6_set R1 (.int .i64 o) (.int .i64 l) (.int .i64 m) (.slice A3 ps.length c3) (.int .i64 b) (.int .i64 t)
  have PF := P1.only (only6 w1 w.heap.size (.int .i64 o) (.int .i64 l) (.int .i64 m) (.slice A3 ps.length c3) (.int .i64 b) (.int .i64 t)) R1 (by decide)
  have IF := I1.far6 R1 (.int .i64 o) (.int .i64 l) (.int .i64 m) (.slice A3 ps.length c3) (.int .i64 b) (.int .i64 t)
  have BF := below_set6 (g := w.heap.size) B1 (Nat.le_refl _) (.int .i64 o) (.int .i64 l) (.int .i64 m) (.slice A3 ps.length c3) (.int .i64 b) (.int .i64 t)
  have q0 := q.cell 0
  have q1 := q.cell 1
  have q2 := q.cell 2
  have q3 := q.cell 3
  have q4 := q.cell 4
  have q5 := q.cell 5
  exact bodyPost_ret (v := .tuple #[kv o l m A3 ps.length c3 b t, .slice A2 xs.length c2]) (by simp [results, Try.results31, go_sem, q0, q1, q2, q3, q4, q5]) rfl ⟨o, l, m, A3, c3, b, t, ps, A2, c2, xs, rfl, hl, hcp, hx, hxc, PF, IF, BF⟩

end Go.Proofs.Ytegfcpdkehgdpaa

/- The walk of FnSettingCodes. Conditions: a slice of bytes. -/
import Derived.Test.YtkecappciglonaaDr10
import Derived.Test.YtkecappciglonaaD
import Derived.Test.YtkecappciglonaaPlw
import Derived.Test.YtkecappciglonaaKn
namespace Go.Proofs.Ytkecappciglonaa
open Go.RowKit

theorem Sx.fits_one {o l m : Int} (h : Sx.setOK o l m = true) : Sx.fits o l m (str [UInt8.ofNat (Sx.two l - 1).toNat]) = true := by
  have hb := Sx.setOK_bd h
  have h1 := Sx.two_pos l
  have h2 := Sx.two_byte hb.2.1
  refine Sx.fits_yes h (by rw [str_size]; simp) ?_
  rw [str_data]
  simp only [List.all_cons, List.all_nil, Bool.and_true, Sx.isLit]
  rw [Sx.byte_num (by omega)]
  exact decide_eq_true (by omega)

theorem cells3 {W : World} {g : Nat} {t : TypeId} {a b c : Value} (k : Blk W g t #[a, b, c]) : W.cell? ⟨g, 0, none⟩ = some a ∧ W.cell? ⟨g, 1, none⟩ = some b ∧ W.cell? ⟨g, 2, none⟩ = some c := ⟨k.cell 0, k.cell 1, k.cell 2⟩

set_option maxRecDepth 100000 in
set_option maxHeartbeats 2000000 in
theorem law_FnSettingCodes (A : Option Addr) (n c : Nat) (w : World) (h : Src w w.heap.size A n) (hc : n ≤ c) (hcm : c ≤ maxLen) :
    Calls Try.prog 8 #[.slice A n c] w fun e w' => e = .returned (.bool true) ∧ Below w.heap.size w w' := by
  by_cases hn : n ≤ 1048576
  · have HD := hide (draw_ClearCode A n c w h hn hc hcm)
    clear h
    go_enter Try.func8, Try.ntmps8
    go_wp2_with fail
    refine (unhide HD).mono ?_; rintro e w1 ⟨o, l, m, rfl, hf, hb1⟩
    clear HD
    have K0 := Blk.new w1 42 #[.int .i64 o, .int .i64 l, .int .i64 m]
    have B1 := hb1.alloc hb1.size (.cells #[.int .i64 o, .int .i64 l, .int .i64 m] 42)
    clear hb1
    go_wp2_with fail
    refine (impl_ClearCode _ _ _ _).mono ?_; rintro e w2 ⟨rfl, hb2⟩
    have B2 := below_next (Nat.le_refl _) B1 hb2
    have k2 := K0.below hb2 (by simp)
    clear K0 hb2 B1
    have c0 : w2.cell? ⟨w1.heap.size, 0, none⟩ = some (.int .i64 o) := k2.cell 0
    have c1 : w2.cell? ⟨w1.heap.size, 1, none⟩ = some (.int .i64 l) := k2.cell 1
    have c2 : w2.cell? ⟨w1.heap.size, 2, none⟩ = some (.int .i64 m) := k2.cell 2
    go_wp2_with fail
    refine (spec_ClearCode _ _ _ _).mono ?_; rintro e w3 ⟨rfl, hb3⟩
    have B3 := below_next (Nat.le_refl _) B2 hb3
    have k3 := k2.below hb3 k2.lt
    clear k2 hb3 B2 c0 c1 c2
    have c0 : w3.cell? ⟨w1.heap.size, 0, none⟩ = some (.int .i64 o) := k3.cell 0
    have c1 : w3.cell? ⟨w1.heap.size, 1, none⟩ = some (.int .i64 l) := k3.cell 1
    have c2 : w3.cell? ⟨w1.heap.size, 2, none⟩ = some (.int .i64 m) := k3.cell 2
    by_cases hs : Sx.setOK o l m = true
    · have hbd := Sx.setOK_bd hs
      have hod := Sx.setOK_od hs
      have t1 := Sx.two_pos l
      have t2 := Sx.two_byte hbd.2.1
      have t3 := Sx.two_lit hbd.2.2.2
      have t4 := Sx.two_step (a := l) (b := m) (by omega) (by omega)
      have HC := hide (Sx.clear_yes hs)
      have HE := hide (Sx.end_yes hs)
      have HL := hide (Sx.last_yes hs)
      obtain ⟨b, hw1, hO⟩ : ∃ b : UInt8, IntKind.u8.wrap (Sx.two l - 1) = (b.toNat : Int) ∧ Sx.fits o l m (str [b]) = true := ⟨_, by rw [Sx.byte_num (by omega), IntKind.wrap_u8]; omega, Sx.fits_one hs⟩
      have HO := hide hO
      clear hO
      have N1 := hide (Sx.needI_last (k := m) (by omega) (by omega))
      have N2 := hide (Sx.needI_two (k := m) (by omega) (by omega))
      have N3 := hide (Sx.needI_two (k := l) (by omega) (by omega))
      have HV := hide hs
      clear hs
      rw [HC.out]
      go_wp2_with fail
      refine (impl_SettingValid _ _ _ _).mono ?_; rintro e w4 ⟨rfl, hb4⟩
      rw [HV.out]
      have B4 := below_next (Nat.le_refl _) B3 hb4
      have k4 := k3.below hb4 k3.lt
      clear k3 hb4 B3 c0 c1 c2
      have c0 : w4.cell? ⟨w1.heap.size, 0, none⟩ = some (.int .i64 o) := k4.cell 0
      have c1 : w4.cell? ⟨w1.heap.size, 1, none⟩ = some (.int .i64 l) := k4.cell 1
      have c2 : w4.cell? ⟨w1.heap.size, 2, none⟩ = some (.int .i64 m) := k4.cell 2
      go_wp2_with fail
      refine (impl_LastCode _ _ _ _).mono ?_; rintro e w5 ⟨rfl, hb5⟩
      rw [HL.out]
      have B5 := below_next (Nat.le_refl _) B4 hb5
      have k5 := k4.below hb5 k4.lt
      clear k4 hb5 B4 c0 c1 c2
      have c0 : w5.cell? ⟨w1.heap.size, 0, none⟩ = some (.int .i64 o) := k5.cell 0
      have c1 : w5.cell? ⟨w1.heap.size, 1, none⟩ = some (.int .i64 l) := k5.cell 1
      have c2 : w5.cell? ⟨w1.heap.size, 2, none⟩ = some (.int .i64 m) := k5.cell 2
      have klt := k5.lt
      have k5d : Blk w5.drew w1.heap.size 42 #[.int .i64 o, .int .i64 l, .int .i64 m] := k5
      have B5d : Below w.heap.size w w5.drew := B5.drew
      have hzs := B5.size
      have CE := hide (fun wx => by have := impl_EndCode o l m wx; rwa [HE.out] at this)
      have C1 := hide (fun wx => by have := impl_BitsNeeded (Sx.two m - 1) wx (by omega) (by omega); rwa [N1.out] at this)
      have C2 := hide (fun wx => by have := impl_BitsNeeded (Sx.two m) wx (by omega) (by omega); rwa [N2.out] at this)
      have C3 := hide (fun wx => by have := impl_BitsNeeded (Sx.two l) wx (by omega) (by omega); rwa [N3.out] at this)
      have CD := hide (fun wx => by have := impl_DataFits o l m (str [b]) wx (by rw [str_size]; simp); rwa [HO.out] at this)
      have hcv := fun wx => run_one_string (P := Try.prog) wx 22 9 5 Try.underlying22 Try.underlying5 Try.underlying9 b 5
      have e1 : IntKind.i64.wrap (Sx.two m - 1 + 1) = Sx.two m := (IntWalk.i64_in _ (by omega)).trans (by omega)
      have e1b : IntKind.i64.wrap (Sx.two m) = Sx.two m := IntWalk.i64_in _ (by omega)
      have e2 : IntKind.i64.wrap (Sx.two l + 1) = Sx.two l + 1 := IntWalk.i64_in _ (by omega)
      have e3 : IntKind.i64.wrap (m + 1) = m + 1 := IntWalk.i64_in _ (by omega)
      have e4 : IntKind.i64.wrap (l + 1) = l + 1 := IntWalk.i64_in _ (by omega)
      have e5 : IntKind.i64.wrap (Sx.two l - 1) = Sx.two l - 1 := IntWalk.i64_in _ (by omega)
      have g1 : decide (Sx.two l + 1 < Sx.two m - 1) = true := decide_eq_true (by omega)
      clear HC HE HL HO N1 N2 N3 HV hf hod hbd t1 t2 t3 t4 c0 c1 c2 B5 k5 hn hc hcm
      go_wp2_with fail
      refine wp_region_held_drew (S := (fun W => Below w.heap.size w W ∧ W.cell? ⟨w1.heap.size, 0, none⟩ = some (.int .i64 o) ∧ W.cell? ⟨w1.heap.size, 1, none⟩ = some (.int .i64 l) ∧ W.cell? ⟨w1.heap.size, 2, none⟩ = some (.int .i64 m))) (by kernel_rfl) (by first | assumption | exact ⟨B5d, cells3 k5d⟩ | exact keep3 (by assumption) (by assumption) | exact keep3 ((Below.refl _ _).alloc (Nat.le_refl _) _) (by assumption)) (fun hHeld => ?_)
      refine wpAnyH_take (i := 0) (oi := { dst := some 53, op := Op.load 42 (Operand.tmp 3), type := 42, pos := "laws.go:66", after := #[], guard := none }) (v := ?_) rfl (by kernel_rfl) (by kernel_rfl) (by kernel_rfl) (fun _ _ _ h => h) (Or.inl ⟨by rfl, ?_⟩) (by assumption) ?_; rotate_left
      · intro W hW; (try dsimp only at hW); go_simp;  try (with_reducible rfl)
      try simp only [Act.put, List.setIfInBounds_toArray, List.set_cons_zero, List.set_cons_succ]
      refine wpAnyH_take (i := 2) (oi := { dst := some 55, op := Op.move (Operand.tmp 4), type := 3, pos := "laws.go:66", after := #[], guard := none }) (v := ?_) rfl (by kernel_rfl) (by kernel_rfl) (by kernel_rfl) (fun _ _ _ h => h) (Or.inl ⟨by rfl, ?_⟩) (by assumption) ?_; rotate_left
      · intro W hW; (try dsimp only at hW); go_simp;  try (with_reducible rfl)
      try simp only [Act.put, List.setIfInBounds_toArray, List.set_cons_zero, List.set_cons_succ]
      refine wpAnyH_take (i := 3) (oi := { dst := some 56, op := Op.binOp BinOp.add 3 (Operand.tmp 55) (Operand.const (Value.int IntKind.i64 1)) 3, type := 3, pos := "laws.go:66", after := #[{ on := 2, ground := Ground.data }], guard := none }) (v := ?_) rfl (by kernel_rfl) (by kernel_rfl) (by kernel_rfl) (fun _ _ _ h => h) (Or.inl ⟨by rfl, ?_⟩) (by assumption) ?_; rotate_left
      · intro W hW; (try dsimp only at hW); go_simp;  try (with_reducible rfl)
      try simp only [Act.put, List.setIfInBounds_toArray, List.set_cons_zero, List.set_cons_succ]
      refine wpAnyH_ready (rs := [1]) (by kernel_rfl) (by simp) (AllReadyH.cons (i := 1) (o := { dst := some 54, op := Op.call { callee := Callee.value (Operand.func 40), args := #[Operand.tmp 53], argTypes := #[42] }, type := 3, pos := "laws.go:66", after := #[{ on := 0, ground := Ground.data }], guard := none }) rfl (fun K hK => ?_) AllReadyH.nil)
      go_simp
      refine ((unhide CE) _).mono ?_; rintro e w' ⟨rfl, hb⟩
      try go_wp2_with fail
      refine hK.out _ _ (by (try dsimp only); first | assumption | exact ⟨B5d, cells3 k5d⟩ | exact keep3 (by assumption) (by assumption) | exact keep3 ((Below.refl _ _).alloc (Nat.le_refl _) _) (by assumption)) (fun hHeld => ?_)
      clear hK K
      try simp only [Act.put, List.setIfInBounds_toArray, List.set_cons_zero, List.set_cons_succ]
      refine wpAnyH_take (i := 4) (oi := { dst := some 57, op := Op.binOp BinOp.eql 3 (Operand.tmp 54) (Operand.tmp 56) 3, type := 4, pos := "laws.go:66", after := #[{ on := 1, ground := Ground.data }, { on := 3, ground := Ground.data }], guard := none }) (v := ?_) rfl (by kernel_rfl) (by kernel_rfl) (by kernel_rfl) (fun _ _ _ h => h) (Or.inl ⟨by rfl, ?_⟩) (by assumption) ?_; rotate_left
      · intro W hW; (try dsimp only at hW); go_simp;  try (with_reducible rfl)
      try simp only [Act.put, List.setIfInBounds_toArray, List.set_cons_zero, List.set_cons_succ]
      refine wpAnyH_take (i := 5) (oi := { dst := some 58, op := Op.move (Operand.tmp 57), type := 4, pos := "laws.go:66", after := #[{ on := 4, ground := Ground.data }, { on := 1, ground := Ground.chain }], guard := none }) (v := ?_) rfl (by kernel_rfl) (by kernel_rfl) (by kernel_rfl) (fun _ _ _ h => h) (Or.inl ⟨by rfl, ?_⟩) (by assumption) ?_; rotate_left
      · intro W hW; (try dsimp only at hW); go_simp;  try (with_reducible rfl)
      try simp only [Act.put, List.setIfInBounds_toArray, List.set_cons_zero, List.set_cons_succ]
      refine wpAnyH_take (i := 6) (oi := { dst := some 59, op := Op.move (Operand.tmp 5), type := 3, pos := "laws.go:66", after := #[{ on := 5, ground := Ground.guard }], guard := some (5, true) }) (v := ?_) rfl (by kernel_rfl) (by kernel_rfl) (by kernel_rfl) (fun _ _ _ h => h) (Or.inl ⟨by rfl, ?_⟩) (by assumption) ?_; rotate_left
      · intro W hW; (try dsimp only at hW); go_simp;  try (with_reducible rfl)
      try simp only [Act.put, List.setIfInBounds_toArray, List.set_cons_zero, List.set_cons_succ]
      refine wpAnyH_take (i := 7) (oi := { dst := some 60, op := Op.move (Operand.tmp 4), type := 3, pos := "laws.go:66", after := #[{ on := 5, ground := Ground.guard }], guard := some (5, true) }) (v := ?_) rfl (by kernel_rfl) (by kernel_rfl) (by kernel_rfl) (fun _ _ _ h => h) (Or.inl ⟨by rfl, ?_⟩) (by assumption) ?_; rotate_left
      · intro W hW; (try dsimp only at hW); go_simp;  try (with_reducible rfl)
      try simp only [Act.put, List.setIfInBounds_toArray, List.set_cons_zero, List.set_cons_succ]
      refine wpAnyH_take (i := 8) (oi := { dst := some 61, op := Op.binOp BinOp.add 3 (Operand.tmp 60) (Operand.const (Value.int IntKind.i64 1)) 3, type := 3, pos := "laws.go:66", after := #[{ on := 7, ground := Ground.data }, { on := 5, ground := Ground.guard }], guard := some (5, true) }) (v := ?_) rfl (by kernel_rfl) (by kernel_rfl) (by kernel_rfl) (fun _ _ _ h => h) (Or.inl ⟨by rfl, ?_⟩) (by assumption) ?_; rotate_left
      · intro W hW; (try dsimp only at hW); go_simp;  try (with_reducible rfl)
      try simp only [Act.put, List.setIfInBounds_toArray, List.set_cons_zero, List.set_cons_succ]
      refine wpAnyH_take (i := 9) (oi := { dst := some 62, op := Op.binOp BinOp.gtr 3 (Operand.tmp 59) (Operand.tmp 61) 3, type := 4, pos := "laws.go:66", after := #[{ on := 6, ground := Ground.data }, { on := 8, ground := Ground.data }, { on := 5, ground := Ground.guard }], guard := some (5, true) }) (v := ?_) rfl (by kernel_rfl) (by kernel_rfl) (by kernel_rfl) (fun _ _ _ h => h) (Or.inl ⟨by rfl, ?_⟩) (by assumption) ?_; rotate_left
      · intro W hW; (try dsimp only at hW); go_simp;  try (with_reducible rfl)
      try simp only [Act.put, List.setIfInBounds_toArray, List.set_cons_zero, List.set_cons_succ]
      refine wpAnyH_take (i := 10) (oi := { dst := some 63, op := Op.pick (Operand.tmp 58) (Operand.tmp 62) (Operand.const (Value.bool false)), type := 4, pos := "laws.go:66", after := #[{ on := 5, ground := Ground.data }, { on := 9, ground := Ground.data }], guard := none }) (v := ?_) rfl (by kernel_rfl) (by kernel_rfl) (by kernel_rfl) (fun _ _ _ h => h) (Or.inl ⟨by rfl, ?_⟩) (by assumption) ?_; rotate_left
      · intro W hW; (try dsimp only at hW); go_simp;  try (with_reducible rfl)
      try simp only [Act.put, List.setIfInBounds_toArray, List.set_cons_zero, List.set_cons_succ]
      refine wpAnyH_take (i := 11) (oi := { dst := some 64, op := Op.move (Operand.tmp 63), type := 4, pos := "laws.go:66", after := #[{ on := 10, ground := Ground.data }, { on := 5, ground := Ground.chain }], guard := none }) (v := ?_) rfl (by kernel_rfl) (by kernel_rfl) (by kernel_rfl) (fun _ _ _ h => h) (Or.inl ⟨by rfl, ?_⟩) (by assumption) ?_; rotate_left
      · intro W hW; (try dsimp only at hW); go_simp;  try (with_reducible rfl)
      try simp only [Act.put, List.setIfInBounds_toArray, List.set_cons_zero, List.set_cons_succ]
      refine wpAnyH_take (i := 12) (oi := { dst := some 65, op := Op.move (Operand.tmp 5), type := 3, pos := "laws.go:66", after := #[{ on := 11, ground := Ground.guard }], guard := some (11, true) }) (v := ?_) rfl (by kernel_rfl) (by kernel_rfl) (by kernel_rfl) (fun _ _ _ h => h) (Or.inl ⟨by rfl, ?_⟩) (by assumption) ?_; rotate_left
      · intro W hW; (try dsimp only at hW); go_simp;  try (with_reducible rfl)
      try simp only [Act.put, List.setIfInBounds_toArray, List.set_cons_zero, List.set_cons_succ]
      refine wpAnyH_take (i := 14) (oi := { dst := some 67, op := Op.fieldAddr 42 (Operand.tmp 3) 2, type := 0, pos := "laws.go:66", after := #[{ on := 11, ground := Ground.guard }], guard := some (11, true) }) (v := ?_) rfl (by kernel_rfl) (by kernel_rfl) (by kernel_rfl) (fun _ _ _ h => h) (Or.inl ⟨by rfl, ?_⟩) (by assumption) ?_; rotate_left
      · intro W hW; (try dsimp only at hW); go_simp;  try (with_reducible rfl)
      try simp only [Act.put, List.setIfInBounds_toArray, List.set_cons_zero, List.set_cons_succ]
      refine wpAnyH_take (i := 15) (oi := { dst := some 68, op := Op.load 3 (Operand.tmp 67), type := 3, pos := "laws.go:66", after := #[{ on := 14, ground := Ground.data }, { on := 11, ground := Ground.guard }], guard := some (11, true) }) (v := ?_) rfl (by kernel_rfl) (by kernel_rfl) (by kernel_rfl) (fun _ _ _ h => h) (Or.inl ⟨by rfl, ?_⟩) (by assumption) ?_; rotate_left
      · intro W hW; (try dsimp only at hW); go_simp;  try (with_reducible rfl)
      try simp only [Act.put, List.setIfInBounds_toArray, List.set_cons_zero, List.set_cons_succ]
      refine wpAnyH_ready (rs := [13]) (by kernel_rfl) (by simp) (AllReadyH.cons (i := 13) (o := { dst := some 66, op := Op.call { callee := Callee.value (Operand.func 18), args := #[Operand.tmp 65], argTypes := #[3] }, type := 3, pos := "laws.go:66", after := #[{ on := 12, ground := Ground.data }, { on := 11, ground := Ground.chain }, { on := 11, ground := Ground.guard }], guard := some (11, true) }) rfl (fun K hK => ?_) AllReadyH.nil)
      go_simp
      refine ((unhide C1) _).mono ?_; rintro e w' ⟨rfl, rfl⟩
      try go_wp2_with fail
      refine hK.out _ _ (by (try dsimp only); first | assumption | exact ⟨B5d, cells3 k5d⟩ | exact keep3 (by assumption) (by assumption) | exact keep3 ((Below.refl _ _).alloc (Nat.le_refl _) _) (by assumption)) (fun hHeld => ?_)
      clear hK K
      try simp only [Act.put, List.setIfInBounds_toArray, List.set_cons_zero, List.set_cons_succ]
      refine wpAnyH_take (i := 16) (oi := { dst := some 69, op := Op.binOp BinOp.eql 3 (Operand.tmp 66) (Operand.tmp 68) 3, type := 4, pos := "laws.go:66", after := #[{ on := 13, ground := Ground.data }, { on := 15, ground := Ground.data }, { on := 11, ground := Ground.guard }], guard := some (11, true) }) (v := ?_) rfl (by kernel_rfl) (by kernel_rfl) (by kernel_rfl) (fun _ _ _ h => h) (Or.inl ⟨by rfl, ?_⟩) (by assumption) ?_; rotate_left
      · intro W hW; (try dsimp only at hW); go_simp;  try (with_reducible rfl)
      try simp only [Act.put, List.setIfInBounds_toArray, List.set_cons_zero, List.set_cons_succ]
      refine wpAnyH_take (i := 17) (oi := { dst := some 70, op := Op.pick (Operand.tmp 64) (Operand.tmp 69) (Operand.const (Value.bool false)), type := 4, pos := "laws.go:66", after := #[{ on := 11, ground := Ground.data }, { on := 16, ground := Ground.data }], guard := none }) (v := ?_) rfl (by kernel_rfl) (by kernel_rfl) (by kernel_rfl) (fun _ _ _ h => h) (Or.inl ⟨by rfl, ?_⟩) (by assumption) ?_; rotate_left
      · intro W hW; (try dsimp only at hW); go_simp;  try (with_reducible rfl)
      try simp only [Act.put, List.setIfInBounds_toArray, List.set_cons_zero, List.set_cons_succ]
      refine wpAnyH_take (i := 18) (oi := { dst := some 71, op := Op.move (Operand.tmp 70), type := 4, pos := "laws.go:66", after := #[{ on := 17, ground := Ground.data }, { on := 13, ground := Ground.chain }], guard := none }) (v := ?_) rfl (by kernel_rfl) (by kernel_rfl) (by kernel_rfl) (fun _ _ _ h => h) (Or.inl ⟨by rfl, ?_⟩) (by assumption) ?_; rotate_left
      · intro W hW; (try dsimp only at hW); go_simp;  try (with_reducible rfl)
      try simp only [Act.put, List.setIfInBounds_toArray, List.set_cons_zero, List.set_cons_succ]
      refine wpAnyH_take (i := 19) (oi := { dst := some 72, op := Op.move (Operand.tmp 5), type := 3, pos := "laws.go:66", after := #[{ on := 18, ground := Ground.guard }], guard := some (18, true) }) (v := ?_) rfl (by kernel_rfl) (by kernel_rfl) (by kernel_rfl) (fun _ _ _ h => h) (Or.inl ⟨by rfl, ?_⟩) (by assumption) ?_; rotate_left
      · intro W hW; (try dsimp only at hW); go_simp;  try (with_reducible rfl)
      try simp only [Act.put, List.setIfInBounds_toArray, List.set_cons_zero, List.set_cons_succ]
      refine wpAnyH_take (i := 20) (oi := { dst := some 73, op := Op.binOp BinOp.add 3 (Operand.tmp 72) (Operand.const (Value.int IntKind.i64 1)) 3, type := 3, pos := "laws.go:66", after := #[{ on := 19, ground := Ground.data }, { on := 18, ground := Ground.guard }], guard := some (18, true) }) (v := ?_) rfl (by kernel_rfl) (by kernel_rfl) (by kernel_rfl) (fun _ _ _ h => h) (Or.inl ⟨by rfl, ?_⟩) (by assumption) ?_; rotate_left
      · intro W hW; (try dsimp only at hW); go_simp;  try (with_reducible rfl)
      try simp only [Act.put, List.setIfInBounds_toArray, List.set_cons_zero, List.set_cons_succ]
      refine wpAnyH_take (i := 22) (oi := { dst := some 75, op := Op.fieldAddr 42 (Operand.tmp 3) 2, type := 0, pos := "laws.go:66", after := #[{ on := 18, ground := Ground.guard }], guard := some (18, true) }) (v := ?_) rfl (by kernel_rfl) (by kernel_rfl) (by kernel_rfl) (fun _ _ _ h => h) (Or.inl ⟨by rfl, ?_⟩) (by assumption) ?_; rotate_left
      · intro W hW; (try dsimp only at hW); go_simp;  try (with_reducible rfl)
      try simp only [Act.put, List.setIfInBounds_toArray, List.set_cons_zero, List.set_cons_succ]
      refine wpAnyH_take (i := 23) (oi := { dst := some 76, op := Op.load 3 (Operand.tmp 75), type := 3, pos := "laws.go:66", after := #[{ on := 22, ground := Ground.data }, { on := 18, ground := Ground.guard }], guard := some (18, true) }) (v := ?_) rfl (by kernel_rfl) (by kernel_rfl) (by kernel_rfl) (fun _ _ _ h => h) (Or.inl ⟨by rfl, ?_⟩) (by assumption) ?_; rotate_left
      · intro W hW; (try dsimp only at hW); go_simp;  try (with_reducible rfl)
      try simp only [Act.put, List.setIfInBounds_toArray, List.set_cons_zero, List.set_cons_succ]
      refine wpAnyH_take (i := 24) (oi := { dst := some 77, op := Op.binOp BinOp.add 3 (Operand.tmp 76) (Operand.const (Value.int IntKind.i64 1)) 3, type := 3, pos := "laws.go:66", after := #[{ on := 23, ground := Ground.data }, { on := 18, ground := Ground.guard }], guard := some (18, true) }) (v := ?_) rfl (by kernel_rfl) (by kernel_rfl) (by kernel_rfl) (fun _ _ _ h => h) (Or.inl ⟨by rfl, ?_⟩) (by assumption) ?_; rotate_left
      · intro W hW; (try dsimp only at hW); go_simp;  try (with_reducible rfl)
      try simp only [Act.put, List.setIfInBounds_toArray, List.set_cons_zero, List.set_cons_succ]
      refine wpAnyH_ready (rs := [21]) (by kernel_rfl) (by simp) (AllReadyH.cons (i := 21) (o := { dst := some 74, op := Op.call { callee := Callee.value (Operand.func 18), args := #[Operand.tmp 73], argTypes := #[3] }, type := 3, pos := "laws.go:66", after := #[{ on := 20, ground := Ground.data }, { on := 18, ground := Ground.chain }, { on := 18, ground := Ground.guard }], guard := some (18, true) }) rfl (fun K hK => ?_) AllReadyH.nil)
      go_simp
      refine ((unhide C2) _).mono ?_; rintro e w' ⟨rfl, rfl⟩
      try go_wp2_with fail
      refine hK.out _ _ (by (try dsimp only); first | assumption | exact ⟨B5d, cells3 k5d⟩ | exact keep3 (by assumption) (by assumption) | exact keep3 ((Below.refl _ _).alloc (Nat.le_refl _) _) (by assumption)) (fun hHeld => ?_)
      clear hK K
      try simp only [Act.put, List.setIfInBounds_toArray, List.set_cons_zero, List.set_cons_succ]
      refine wpAnyH_take (i := 25) (oi := { dst := some 78, op := Op.binOp BinOp.eql 3 (Operand.tmp 74) (Operand.tmp 77) 3, type := 4, pos := "laws.go:66", after := #[{ on := 21, ground := Ground.data }, { on := 24, ground := Ground.data }, { on := 18, ground := Ground.guard }], guard := some (18, true) }) (v := ?_) rfl (by kernel_rfl) (by kernel_rfl) (by kernel_rfl) (fun _ _ _ h => h) (Or.inl ⟨by rfl, ?_⟩) (by assumption) ?_; rotate_left
      · intro W hW; (try dsimp only at hW); go_simp;  try (with_reducible rfl)
      try simp only [Act.put, List.setIfInBounds_toArray, List.set_cons_zero, List.set_cons_succ]
      refine wpAnyH_take (i := 26) (oi := { dst := some 79, op := Op.pick (Operand.tmp 71) (Operand.tmp 78) (Operand.const (Value.bool false)), type := 4, pos := "laws.go:66", after := #[{ on := 18, ground := Ground.data }, { on := 25, ground := Ground.data }], guard := none }) (v := ?_) rfl (by kernel_rfl) (by kernel_rfl) (by kernel_rfl) (fun _ _ _ h => h) (Or.inl ⟨by rfl, ?_⟩) (by assumption) ?_; rotate_left
      · intro W hW; (try dsimp only at hW); go_simp;  try (with_reducible rfl)
      try simp only [Act.put, List.setIfInBounds_toArray, List.set_cons_zero, List.set_cons_succ]
      refine wpAnyH_take (i := 27) (oi := { dst := some 80, op := Op.move (Operand.tmp 79), type := 4, pos := "laws.go:66", after := #[{ on := 26, ground := Ground.data }, { on := 21, ground := Ground.chain }], guard := none }) (v := ?_) rfl (by kernel_rfl) (by kernel_rfl) (by kernel_rfl) (fun _ _ _ h => h) (Or.inl ⟨by rfl, ?_⟩) (by assumption) ?_; rotate_left
      · intro W hW; (try dsimp only at hW); go_simp;  try (with_reducible rfl)
      try simp only [Act.put, List.setIfInBounds_toArray, List.set_cons_zero, List.set_cons_succ]
      refine wpAnyH_take (i := 28) (oi := { dst := some 81, op := Op.move (Operand.tmp 4), type := 3, pos := "laws.go:66", after := #[{ on := 27, ground := Ground.guard }], guard := some (27, true) }) (v := ?_) rfl (by kernel_rfl) (by kernel_rfl) (by kernel_rfl) (fun _ _ _ h => h) (Or.inl ⟨by rfl, ?_⟩) (by assumption) ?_; rotate_left
      · intro W hW; (try dsimp only at hW); go_simp;  try (with_reducible rfl)
      try simp only [Act.put, List.setIfInBounds_toArray, List.set_cons_zero, List.set_cons_succ]
      refine wpAnyH_take (i := 30) (oi := { dst := some 83, op := Op.fieldAddr 42 (Operand.tmp 3) 1, type := 0, pos := "laws.go:66", after := #[{ on := 27, ground := Ground.guard }], guard := some (27, true) }) (v := ?_) rfl (by kernel_rfl) (by kernel_rfl) (by kernel_rfl) (fun _ _ _ h => h) (Or.inl ⟨by rfl, ?_⟩) (by assumption) ?_; rotate_left
      · intro W hW; (try dsimp only at hW); go_simp;  try (with_reducible rfl)
      try simp only [Act.put, List.setIfInBounds_toArray, List.set_cons_zero, List.set_cons_succ]
      refine wpAnyH_take (i := 31) (oi := { dst := some 84, op := Op.load 3 (Operand.tmp 83), type := 3, pos := "laws.go:66", after := #[{ on := 30, ground := Ground.data }, { on := 27, ground := Ground.guard }], guard := some (27, true) }) (v := ?_) rfl (by kernel_rfl) (by kernel_rfl) (by kernel_rfl) (fun _ _ _ h => h) (Or.inl ⟨by rfl, ?_⟩) (by assumption) ?_; rotate_left
      · intro W hW; (try dsimp only at hW); go_simp;  try (with_reducible rfl)
      try simp only [Act.put, List.setIfInBounds_toArray, List.set_cons_zero, List.set_cons_succ]
      refine wpAnyH_take (i := 32) (oi := { dst := some 85, op := Op.binOp BinOp.add 3 (Operand.tmp 84) (Operand.const (Value.int IntKind.i64 1)) 3, type := 3, pos := "laws.go:66", after := #[{ on := 31, ground := Ground.data }, { on := 27, ground := Ground.guard }], guard := some (27, true) }) (v := ?_) rfl (by kernel_rfl) (by kernel_rfl) (by kernel_rfl) (fun _ _ _ h => h) (Or.inl ⟨by rfl, ?_⟩) (by assumption) ?_; rotate_left
      · intro W hW; (try dsimp only at hW); go_simp;  try (with_reducible rfl)
      try simp only [Act.put, List.setIfInBounds_toArray, List.set_cons_zero, List.set_cons_succ]
      refine wpAnyH_ready (rs := [29]) (by kernel_rfl) (by simp) (AllReadyH.cons (i := 29) (o := { dst := some 82, op := Op.call { callee := Callee.value (Operand.func 18), args := #[Operand.tmp 81], argTypes := #[3] }, type := 3, pos := "laws.go:66", after := #[{ on := 28, ground := Ground.data }, { on := 27, ground := Ground.chain }, { on := 27, ground := Ground.guard }], guard := some (27, true) }) rfl (fun K hK => ?_) AllReadyH.nil)
      go_simp
      refine ((unhide C3) _).mono ?_; rintro e w' ⟨rfl, rfl⟩
      try go_wp2_with fail
      refine hK.out _ _ (by (try dsimp only); first | assumption | exact ⟨B5d, cells3 k5d⟩ | exact keep3 (by assumption) (by assumption) | exact keep3 ((Below.refl _ _).alloc (Nat.le_refl _) _) (by assumption)) (fun hHeld => ?_)
      clear hK K
      try simp only [Act.put, List.setIfInBounds_toArray, List.set_cons_zero, List.set_cons_succ]
      refine wpAnyH_take (i := 33) (oi := { dst := some 86, op := Op.binOp BinOp.eql 3 (Operand.tmp 82) (Operand.tmp 85) 3, type := 4, pos := "laws.go:66", after := #[{ on := 29, ground := Ground.data }, { on := 32, ground := Ground.data }, { on := 27, ground := Ground.guard }], guard := some (27, true) }) (v := ?_) rfl (by kernel_rfl) (by kernel_rfl) (by kernel_rfl) (fun _ _ _ h => h) (Or.inl ⟨by rfl, ?_⟩) (by assumption) ?_; rotate_left
      · intro W hW; (try dsimp only at hW); go_simp;  try (with_reducible rfl)
      try simp only [Act.put, List.setIfInBounds_toArray, List.set_cons_zero, List.set_cons_succ]
      refine wpAnyH_take (i := 34) (oi := { dst := some 87, op := Op.pick (Operand.tmp 80) (Operand.tmp 86) (Operand.const (Value.bool false)), type := 4, pos := "laws.go:66", after := #[{ on := 27, ground := Ground.data }, { on := 33, ground := Ground.data }], guard := none }) (v := ?_) rfl (by kernel_rfl) (by kernel_rfl) (by kernel_rfl) (fun _ _ _ h => h) (Or.inl ⟨by rfl, ?_⟩) (by assumption) ?_; rotate_left
      · intro W hW; (try dsimp only at hW); go_simp;  try (with_reducible rfl)
      try simp only [Act.put, List.setIfInBounds_toArray, List.set_cons_zero, List.set_cons_succ]
      refine wpAnyH_take (i := 35) (oi := { dst := some 88, op := Op.move (Operand.tmp 87), type := 4, pos := "laws.go:66", after := #[{ on := 34, ground := Ground.data }, { on := 29, ground := Ground.chain }], guard := none }) (v := ?_) rfl (by kernel_rfl) (by kernel_rfl) (by kernel_rfl) (fun _ _ _ h => h) (Or.inl ⟨by rfl, ?_⟩) (by assumption) ?_; rotate_left
      · intro W hW; (try dsimp only at hW); go_simp;  try (with_reducible rfl)
      try simp only [Act.put, List.setIfInBounds_toArray, List.set_cons_zero, List.set_cons_succ]
      refine wpAnyH_take (i := 36) (oi := { dst := some 89, op := Op.load 42 (Operand.tmp 3), type := 42, pos := "laws.go:66", after := #[{ on := 35, ground := Ground.guard }], guard := some (35, true) }) (v := ?_) rfl (by kernel_rfl) (by kernel_rfl) (by kernel_rfl) (fun _ _ _ h => h) (Or.inl ⟨by rfl, ?_⟩) (by assumption) ?_; rotate_left
      · intro W hW; (try dsimp only at hW); go_simp;  try (with_reducible rfl)
      try simp only [Act.put, List.setIfInBounds_toArray, List.set_cons_zero, List.set_cons_succ]
      refine wpAnyH_take (i := 37) (oi := { dst := some 90, op := Op.move (Operand.tmp 4), type := 3, pos := "laws.go:66", after := #[{ on := 35, ground := Ground.guard }], guard := some (35, true) }) (v := ?_) rfl (by kernel_rfl) (by kernel_rfl) (by kernel_rfl) (fun _ _ _ h => h) (Or.inl ⟨by rfl, ?_⟩) (by assumption) ?_; rotate_left
      · intro W hW; (try dsimp only at hW); go_simp;  try (with_reducible rfl)
      try simp only [Act.put, List.setIfInBounds_toArray, List.set_cons_zero, List.set_cons_succ]
      refine wpAnyH_take (i := 38) (oi := { dst := some 91, op := Op.binOp BinOp.sub 3 (Operand.tmp 90) (Operand.const (Value.int IntKind.i64 1)) 3, type := 3, pos := "laws.go:66", after := #[{ on := 37, ground := Ground.data }, { on := 35, ground := Ground.guard }], guard := some (35, true) }) (v := ?_) rfl (by kernel_rfl) (by kernel_rfl) (by kernel_rfl) (fun _ _ _ h => h) (Or.inl ⟨by rfl, ?_⟩) (by assumption) ?_; rotate_left
      · intro W hW; (try dsimp only at hW); go_simp;  try (with_reducible rfl)
      try simp only [Act.put, List.setIfInBounds_toArray, List.set_cons_zero, List.set_cons_succ]
      refine wpAnyH_take (i := 39) (oi := { dst := some 92, op := Op.convert 3 5 (Operand.tmp 91), type := 5, pos := "laws.go:66", after := #[{ on := 38, ground := Ground.data }, { on := 35, ground := Ground.guard }], guard := some (35, true) }) (v := ?_) rfl (by kernel_rfl) (by kernel_rfl) (by kernel_rfl) (fun _ _ _ h => h) (Or.inl ⟨by rfl, ?_⟩) (by assumption) ?_; rotate_left
      · intro W hW; (try dsimp only at hW); go_simp;  try (with_reducible rfl)
      try simp only [Act.put, List.setIfInBounds_toArray, List.set_cons_zero, List.set_cons_succ]
      refine wpAnyH_ready (rs := [40]) (by kernel_rfl) (by simp) (AllReadyH.cons (i := 40) (o := { dst := some 93, op := Op.buildSlice 22 1 #[(0, Operand.tmp 92)], type := 22, pos := "laws.go:66", after := #[{ on := 39, ground := Ground.data }, { on := 35, ground := Ground.guard }], guard := some (35, true) }) rfl (fun K hK => ?_) AllReadyH.nil)
      go_simp
      refine hK.out _ _ (by (try dsimp only); first | assumption | exact ⟨B5d, cells3 k5d⟩ | exact keep3 (by assumption) (by assumption) | exact keep3 ((Below.refl _ _).alloc (Nat.le_refl _) _) (by assumption)) (fun hHeld => ?_)
      clear hK K
      try simp only [Act.put, List.setIfInBounds_toArray, List.set_cons_zero, List.set_cons_succ]
      refine wpAnyH_ready (rs := [41]) (by kernel_rfl) (by simp) (AllReadyH.cons (i := 41) (o := { dst := some 94, op := Op.convert 22 9 (Operand.tmp 93), type := 9, pos := "laws.go:66", after := #[{ on := 40, ground := Ground.data }, { on := 35, ground := Ground.guard }], guard := some (35, true) }) rfl (fun K hK => ?_) AllReadyH.nil)
      go_simp
      refine hK.out _ _ (by (try dsimp only); first | assumption | exact ⟨B5d, cells3 k5d⟩ | exact keep3 (by assumption) (by assumption) | exact keep3 ((Below.refl _ _).alloc (Nat.le_refl _) _) (by assumption)) (fun hHeld => ?_)
      clear hK K
      try simp only [Act.put, List.setIfInBounds_toArray, List.set_cons_zero, List.set_cons_succ]
      refine wpAnyH_ready (rs := [42]) (by kernel_rfl) (by simp) (AllReadyH.cons (i := 42) (o := { dst := some 95, op := Op.call { callee := Callee.value (Operand.func 34), args := #[Operand.tmp 89, Operand.tmp 94], argTypes := #[42, 9] }, type := 4, pos := "laws.go:66", after := #[{ on := 36, ground := Ground.data }, { on := 41, ground := Ground.data }, { on := 35, ground := Ground.chain }, { on := 35, ground := Ground.guard }], guard := some (35, true) }) rfl (fun K hK => ?_) AllReadyH.nil)
      go_simp
      refine ((unhide CD) _).mono ?_; rintro e w' ⟨rfl, hb⟩
      try go_wp2_with fail
      refine hK.out _ _ (by (try dsimp only); first | assumption | exact ⟨B5d, cells3 k5d⟩ | exact keep3 (by assumption) (by assumption) | exact keep3 ((Below.refl _ _).alloc (Nat.le_refl _) _) (by assumption)) (fun hHeld => ?_)
      clear hK K
      try simp only [Act.put, List.setIfInBounds_toArray, List.set_cons_zero, List.set_cons_succ]
      refine wpAnyH_take (i := 43) (oi := { dst := some 96, op := Op.pick (Operand.tmp 88) (Operand.tmp 95) (Operand.const (Value.bool false)), type := 4, pos := "laws.go:66", after := #[{ on := 35, ground := Ground.data }, { on := 42, ground := Ground.data }], guard := none }) (v := ?_) rfl (by kernel_rfl) (by kernel_rfl) (by kernel_rfl) (fun _ _ _ h => h) (Or.inl ⟨by rfl, ?_⟩) (by assumption) ?_; rotate_left
      · intro W hW; (try dsimp only at hW); go_simp;  try (with_reducible rfl)
      try simp only [Act.put, List.setIfInBounds_toArray, List.set_cons_zero, List.set_cons_succ]
      refine wpAnyH_take (i := 44) (oi := { dst := some 2, op := Op.assign (Operand.tmp 96), type := 4, pos := "laws.go:66", after := #[{ on := 43, ground := Ground.data }, { on := 42, ground := Ground.chain }, { on := 0, ground := Ground.phase }, { on := 1, ground := Ground.phase }, { on := 2, ground := Ground.phase }, { on := 3, ground := Ground.phase }, { on := 4, ground := Ground.phase }, { on := 5, ground := Ground.phase }, { on := 6, ground := Ground.phase }, { on := 7, ground := Ground.phase }, { on := 8, ground := Ground.phase }, { on := 9, ground := Ground.phase }, { on := 10, ground := Ground.phase }, { on := 11, ground := Ground.phase }, { on := 12, ground := Ground.phase }, { on := 13, ground := Ground.phase }, { on := 14, ground := Ground.phase }, { on := 15, ground := Ground.phase }, { on := 16, ground := Ground.phase }, { on := 17, ground := Ground.phase }, { on := 18, ground := Ground.phase }, { on := 19, ground := Ground.phase }, { on := 20, ground := Ground.phase }, { on := 21, ground := Ground.phase }, { on := 22, ground := Ground.phase }, { on := 23, ground := Ground.phase }, { on := 24, ground := Ground.phase }, { on := 25, ground := Ground.phase }, { on := 26, ground := Ground.phase }, { on := 27, ground := Ground.phase }, { on := 28, ground := Ground.phase }, { on := 29, ground := Ground.phase }, { on := 30, ground := Ground.phase }, { on := 31, ground := Ground.phase }, { on := 32, ground := Ground.phase }, { on := 33, ground := Ground.phase }, { on := 34, ground := Ground.phase }, { on := 35, ground := Ground.phase }, { on := 36, ground := Ground.phase }, { on := 37, ground := Ground.phase }, { on := 38, ground := Ground.phase }, { on := 39, ground := Ground.phase }, { on := 40, ground := Ground.phase }, { on := 41, ground := Ground.phase }, { on := 42, ground := Ground.phase }, { on := 43, ground := Ground.phase }], guard := none }) (v := ?_) rfl (by kernel_rfl) (by kernel_rfl) (by kernel_rfl) (fun _ _ _ h => h) (Or.inl ⟨by rfl, ?_⟩) (by assumption) ?_; rotate_left
      · intro W hW; (try dsimp only at hW); go_simp;  try (with_reducible rfl)
      try simp only [Act.put, List.setIfInBounds_toArray, List.set_cons_zero, List.set_cons_succ]
      refine wpAnyH_done (by kernel_rfl) ?_ _
      go_wp2
      go_ret
      exact ⟨rfl, hHeld.1⟩
    · have hs : Sx.setOK o l m = false := by simpa using hs
      have HC := hide (Sx.clear_no hs)
      have HE := hide (Sx.end_no hs)
      have HL := hide (Sx.last_no hs)
      have HV := hide hs
      clear hs
      rw [HC.out]
      go_wp2_with fail
      refine (impl_SettingValid _ _ _ _).mono ?_; rintro e w4 ⟨rfl, hb4⟩
      rw [HV.out]
      have B4 := below_next (Nat.le_refl _) B3 hb4
      have k4 := k3.below hb4 k3.lt
      clear k3 hb4 B3 c0 c1 c2
      have c0 : w4.cell? ⟨w1.heap.size, 0, none⟩ = some (.int .i64 o) := k4.cell 0
      have c1 : w4.cell? ⟨w1.heap.size, 1, none⟩ = some (.int .i64 l) := k4.cell 1
      have c2 : w4.cell? ⟨w1.heap.size, 2, none⟩ = some (.int .i64 m) := k4.cell 2
      go_wp2_with fail
      refine (spec_ClearCode _ _ _ _).mono ?_; rintro e w5 ⟨rfl, hb5⟩
      rw [HC.out]
      have B5 := below_next (Nat.le_refl _) B4 hb5
      have k5 := k4.below hb5 k4.lt
      clear k4 hb5 B4 c0 c1 c2
      have c0 : w5.cell? ⟨w1.heap.size, 0, none⟩ = some (.int .i64 o) := k5.cell 0
      have c1 : w5.cell? ⟨w1.heap.size, 1, none⟩ = some (.int .i64 l) := k5.cell 1
      have c2 : w5.cell? ⟨w1.heap.size, 2, none⟩ = some (.int .i64 m) := k5.cell 2
      go_wp2_with fail
      refine (impl_SettingValid _ _ _ _).mono ?_; rintro e w6 ⟨rfl, hb6⟩
      rw [HV.out]
      have B6 := below_next (Nat.le_refl _) B5 hb6
      have k6 := k5.below hb6 k5.lt
      clear k5 hb6 B5 c0 c1 c2
      have c0 : w6.cell? ⟨w1.heap.size, 0, none⟩ = some (.int .i64 o) := k6.cell 0
      have c1 : w6.cell? ⟨w1.heap.size, 1, none⟩ = some (.int .i64 l) := k6.cell 1
      have c2 : w6.cell? ⟨w1.heap.size, 2, none⟩ = some (.int .i64 m) := k6.cell 2
      go_wp2_with fail
      refine (impl_EndCode _ _ _ _).mono ?_; rintro e w7 ⟨rfl, hb7⟩
      rw [HE.out]
      have B7 := below_next (Nat.le_refl _) B6 hb7
      have k7 := k6.below hb7 k6.lt
      clear k6 hb7 B6 c0 c1 c2
      have c0 : w7.cell? ⟨w1.heap.size, 0, none⟩ = some (.int .i64 o) := k7.cell 0
      have c1 : w7.cell? ⟨w1.heap.size, 1, none⟩ = some (.int .i64 l) := k7.cell 1
      have c2 : w7.cell? ⟨w1.heap.size, 2, none⟩ = some (.int .i64 m) := k7.cell 2
      go_wp2_with fail
      refine (impl_LastCode _ _ _ _).mono ?_; rintro e w8 ⟨rfl, hb8⟩
      rw [HL.out]
      have B8 := below_next (Nat.le_refl _) B7 hb8
      go_wp2_with fail
      go_ret
      exact ⟨rfl, B8⟩
  · clear h
    go_enter Try.func8, Try.ntmps8
    go_wp2_with fail
    go_ret
    exact ⟨rfl, Below.refl _ _⟩
end Go.Proofs.Ytkecappciglonaa

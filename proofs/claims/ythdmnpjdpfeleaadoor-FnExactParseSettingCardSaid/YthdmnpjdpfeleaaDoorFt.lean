/- The walks of FormatSetting. Conditions: none. -/
import Derived.Test.YthdmnpjdpfeleaaDoorS
import Derived.Test.YthdmnpjdpfeleaaDoorBytes
import Derived.Test.YthdmnpjdpfeleaaDoorKn
import Derived.Test.YthdmnpjdpfeleaaDoorShelf
namespace Go.Proofs.YthdmnpjdpfeleaaDoor
open Go.RowKit

theorem Sx.dec_len (n : Nat) (h : n < 100) : (Lib.decDigits n).length ≤ 2 := by
  by_cases h1 : n < 10
  · rw [Lib.decDigits_one h1]; simp
  · rw [Lib.decDigits_two h1 h]; simp
/-- The text of a setting. -/
def Sx.fmtL (o l m : Int) : List UInt8 := (if o = 1 then [104, 105, 103, 104, 32] else [108, 111, 119, 32]) ++ (Lib.decDigits l.toNat ++ [32] ++ Lib.decDigits m.toNat)
def Sx.fmtS (o l m : Int) : ByteArray := if Sx.setOK o l m = true then str (Sx.fmtL o l m) else str []

def Sx.DecR (n : Nat) (s0 s3 : Value) : Prop := ∃ (k : Nat) (l : List UInt8), s0 = .int .i64 k ∧ s3 = .string (str l) ∧ l.length ≤ 1 ∧ Hid ((k = n ∧ l = []) ∨ (n = 10 ∧ k = 1 ∧ l = [48]))
set_option maxRecDepth 100000 in
set_option maxHeartbeats 1000000 in
theorem spec_l9Dec (n : Nat) (hn : n ≤ 10) (w : World) :
    Calls Tryd.prog 18 #[.int .i64 n] w fun e w' => e = .returned (.string (str (Lib.decDigits n))) ∧ Below w.heap.size w w' := by
  have hlo : ¬ ((n : Int) < -9223372036854775807) := by omega
  have hne : ¬ ((n : Int) < 0) := by omega
  go_enter Tryd.func18, Tryd.ntmps18
  go_wp2_with fail
  go_loopw [0, 3] (fun s0 s3 wr => Sx.DecR n s0 s3 ∧ Below w.heap.size w wr) (fun s0 _ _ => (intOf s0).toNat)
  case atStart => exact ⟨⟨n, [], rfl, rfl, by simp, hide (.inl ⟨rfl, rfl⟩)⟩, Below.refl _ _⟩
  case round =>
    obtain ⟨⟨k, l, rfl, rfl, hl, HC⟩, B0⟩ := hrel
    by_cases hk : 9 < k
    · have hkI : (9 : Int) < (k : Int) := by omega
      have hk10 : k = 10 := by rcases HC.out with h | h <;> omega
      have hl0 : l = [] := by
        rcases HC.out with h | h
        · exact h.2
        · omega
      have hn10 : n = 10 := by rcases HC.out with h | h <;> omega
      subst hk10; subst hl0; subst hn10
      have hcv : ∀ wx : World, (convert 32 9 (.slice (some ⟨wx.heap.size, 0, none⟩) 1 1)).run Tryd.prog (wx.alloc (.cells #[.int .u8 48] 5)) = .ok (.string (str [48])) (wx.alloc (.cells #[.int .u8 48] 5)) := fun wx => run_one_string (P := Tryd.prog) wx 32 9 5 Tryd.underlying32 Tryd.underlying5 Tryd.underlying9 48 5
      go_wp2_with fail
      go_roundw
      case rel => exact ⟨⟨1, [48], rfl, rfl, by simp, hide (.inr ⟨rfl, rfl, rfl⟩)⟩, B0.alloc B0.size _⟩
      case measure => simp [intOf]; omega
    · have hkI : ¬ (9 : Int) < (k : Int) := by omega
      obtain ⟨b, hb⟩ : ∃ b : UInt8, (b.toNat : Int) = 48 + (k : Int) := ⟨UInt8.ofNat (48 + k), by rw [UInt8.toNat_ofNat']; omega⟩
      have hbl : Lib.decDigits n = [b] ++ l := by
        have hb2 : b = UInt8.ofNat (48 + k) := by apply UInt8.toNat_inj.1; rw [UInt8.toNat_ofNat']; omega
        rcases HC.out with ⟨rfl, rfl⟩ | ⟨rfl, rfl, rfl⟩
        · rw [Lib.decDigits_one (by omega), hb2]; rfl
        · rw [hb2, Lib.decDigits_two (by omega) (by omega)]; rfl
      have HBL := hide hbl
      have e1 : IntKind.i64.wrap (48 + (k : Int)) = 48 + (k : Int) := IntWalk.i64_in _ (by omega)
      have e2 : IntKind.u8.wrap (48 + (k : Int)) = (b.toNat : Int) := by rw [hb, IntKind.wrap_u8]; omega
      have hcv := fun wx => run_one_string (P := Tryd.prog) wx 32 9 5 Tryd.underlying32 Tryd.underlying5 Tryd.underlying9 b 5
      have hz0 : ¬ 9223372036854775807 < (str [b]).size + (str l).size := by simp only [str_size, List.length_cons, List.length_nil]; omega
      clear hb hbl
      go_wp2_with fail
      go_ret
      exact ⟨by rw [HBL.out]; rfl, B0.alloc B0.size _⟩

set_option maxRecDepth 100000 in
set_option maxHeartbeats 2000000 in
theorem impl_FormatSetting (o l m : Int) (w : World) :
    Calls Tryd.prog 11 #[sv o l m] w fun e w' => e = .returned (.string (Sx.fmtS o l m)) ∧ Below w.heap.size w w' := by
  cases hok : Sx.setOK o l m
  · have CV := hide (fun wx => by have := impl_SettingValid o l m wx; rwa [hok] at this)
    have HF := hide (show Sx.fmtS o l m = str [] from if_neg (by simp [hok]))
    have BB : Below w.heap.size w (w.alloc (.cells #[.int .i64 o, .int .i64 l, .int .i64 m] 23)) := (Below.refl _ _).alloc (Nat.le_refl _) _
    clear hok
    go_enter Tryd.func11, Tryd.ntmps11
    go_wp2_with fail
    refine ((unhide CV) _).mono ?_; rintro e w0 ⟨rfl, hb0⟩
    have B0 : Below w.heap.size w w0 := below_next (Nat.le_refl _) BB hb0
    go_wp2_with fail
    go_ret
    exact ⟨by rw [HF.out]; rfl, B0⟩
  · have CV := hide (fun wx => by have := impl_SettingValid o l m wx; rwa [hok] at this)
    have HF := hide (show Sx.fmtS o l m = str (Sx.fmtL o l m) from if_pos hok)
    have hbd := Sx.setOK_bd hok
    obtain ⟨L, rfl⟩ := Int.eq_ofNat_of_zero_le (show 0 ≤ l by omega)
    obtain ⟨M, rfl⟩ := Int.eq_ofNat_of_zero_le (show 0 ≤ m by omega)
    have BB : Below w.heap.size w (w.alloc (.cells #[.int .i64 o, .int .i64 (L : Int), .int .i64 (M : Int)] 23)) := (Below.refl _ _).alloc (Nat.le_refl _) _
    have KB := Blk.new w 23 #[.int .i64 o, .int .i64 (L : Int), .int .i64 (M : Int)]
    have hL := (Sx.dec_len L (by omega))
    have hM := (Sx.dec_len M (by omega))
    clear hok
    by_cases ho : o = 1
    · skip
      have z1 : ¬ 9223372036854775807 < 5 + (Lib.decDigits L).length := by omega
      have z2 : ¬ 9223372036854775807 < 5 + (Lib.decDigits L).length + 1 := by omega
      have z3 : ¬ 9223372036854775807 < 5 + (Lib.decDigits L).length + 1 + (Lib.decDigits M).length := by omega
      subst ho
      go_enter Tryd.func11, Tryd.ntmps11
      go_wp2_with fail
      refine ((unhide CV) _).mono ?_; rintro e w0 ⟨rfl, hb0⟩
      have B0 : Below w.heap.size w w0 := below_next (Nat.le_refl _) BB hb0
      have K0 := KB.below hb0 KB.lt
      have k0 := K0.cell 0
      clear CV hb0 KB BB
      have s0 : Below w.heap.size w w0.drew ∧ w0.drew.cell? ⟨w.heap.size, 0, none⟩ = some (.int .i64 1) ∧ w0.drew.cell? ⟨w.heap.size, 1, none⟩ = some (.int .i64 (L : Int)) ∧ w0.drew.cell? ⟨w.heap.size, 2, none⟩ = some (.int .i64 (M : Int)) := ⟨B0.drew, K0.cell 0, K0.cell 1, K0.cell 2⟩
      go_wp2_with fail
      refine wp_region_held_drew (S := (fun W => Below w.heap.size w W ∧ W.cell? ⟨w.heap.size, 0, none⟩ = some (.int .i64 1) ∧ W.cell? ⟨w.heap.size, 1, none⟩ = some (.int .i64 (L : Int)) ∧ W.cell? ⟨w.heap.size, 2, none⟩ = some (.int .i64 (M : Int)))) (by kernel_rfl) (by first | assumption | exact s0 | exact keep3 (by assumption) (by assumption)) (fun hHeld => ?_)
      refine wpAnyH_take (i := 0) (oi := { dst := some 10, op := Op.move (Operand.tmp 3), type := 9, pos := "l1_codes.go:46", after := #[], guard := none }) (v := ?_) rfl (by kernel_rfl) (by kernel_rfl) (by kernel_rfl) (fun _ _ _ h => h) (Or.inl ⟨by rfl, ?_⟩) (by assumption) ?_; rotate_left
      · intro W hW; (try dsimp only at hW); go_simp;  try (with_reducible rfl)
      try simp only [Act.put, List.setIfInBounds_toArray, List.set_cons_zero, List.set_cons_succ]
      refine wpAnyH_take (i := 1) (oi := { dst := some 11, op := Op.binOp BinOp.add 9 (Operand.tmp 10) (Operand.const (Value.string { data := #[32] })) 9, type := 9, pos := "l1_codes.go:46", after := #[{ on := 0, ground := Ground.data }], guard := none }) (v := ?_) rfl (by kernel_rfl) (by kernel_rfl) (by kernel_rfl) (fun _ _ _ h => h) (Or.inl ⟨by rfl, ?_⟩) (by assumption) ?_; rotate_left
      · intro W hW; (try dsimp only at hW); go_simp;  try (with_reducible rfl)
      try simp only [Act.put, List.setIfInBounds_toArray, List.set_cons_zero, List.set_cons_succ]
      refine wpAnyH_take (i := 2) (oi := { dst := some 12, op := Op.fieldAddr 23 (Operand.tmp 1) 1, type := 0, pos := "l1_codes.go:46", after := #[], guard := none }) (v := ?_) rfl (by kernel_rfl) (by kernel_rfl) (by kernel_rfl) (fun _ _ _ h => h) (Or.inl ⟨by rfl, ?_⟩) (by assumption) ?_; rotate_left
      · intro W hW; (try dsimp only at hW); go_simp;  try (with_reducible rfl)
      try simp only [Act.put, List.setIfInBounds_toArray, List.set_cons_zero, List.set_cons_succ]
      refine wpAnyH_take (i := 3) (oi := { dst := some 13, op := Op.load 3 (Operand.tmp 12), type := 3, pos := "l1_codes.go:46", after := #[{ on := 2, ground := Ground.data }], guard := none }) (v := ?_) rfl (by kernel_rfl) (by kernel_rfl) (by kernel_rfl) (fun _ _ _ h => h) (Or.inl ⟨by rfl, ?_⟩) (by assumption) ?_; rotate_left
      · intro W hW; (try dsimp only at hW); go_simp;  try (with_reducible rfl)
      try simp only [Act.put, List.setIfInBounds_toArray, List.set_cons_zero, List.set_cons_succ]
      refine wpAnyH_take (i := 7) (oi := { dst := some 17, op := Op.fieldAddr 23 (Operand.tmp 1) 2, type := 0, pos := "l1_codes.go:46", after := #[], guard := none }) (v := ?_) rfl (by kernel_rfl) (by kernel_rfl) (by kernel_rfl) (fun _ _ _ h => h) (Or.inl ⟨by rfl, ?_⟩) (by assumption) ?_; rotate_left
      · intro W hW; (try dsimp only at hW); go_simp;  try (with_reducible rfl)
      try simp only [Act.put, List.setIfInBounds_toArray, List.set_cons_zero, List.set_cons_succ]
      refine wpAnyH_take (i := 8) (oi := { dst := some 18, op := Op.load 3 (Operand.tmp 17), type := 3, pos := "l1_codes.go:46", after := #[{ on := 7, ground := Ground.data }], guard := none }) (v := ?_) rfl (by kernel_rfl) (by kernel_rfl) (by kernel_rfl) (fun _ _ _ h => h) (Or.inl ⟨by rfl, ?_⟩) (by assumption) ?_; rotate_left
      · intro W hW; (try dsimp only at hW); go_simp;  try (with_reducible rfl)
      try simp only [Act.put, List.setIfInBounds_toArray, List.set_cons_zero, List.set_cons_succ]
      refine wpAnyH_ready (rs := [4]) (by kernel_rfl) (by simp) (AllReadyH.cons (i := 4) (o := { dst := some 14, op := Op.call { callee := Callee.value (Operand.func 19), args := #[Operand.tmp 13], argTypes := #[3] }, type := 9, pos := "l1_codes.go:46", after := #[{ on := 3, ground := Ground.data }], guard := none }) rfl (fun K hK => ?_) AllReadyH.nil)
      go_simp
      refine (Tryd.strconv_Itoa_small L (by omega) _).mono ?_; rintro e y1 ⟨rfl, rfl⟩
      try go_wp2_with fail
      refine hK.out _ _ (by (try dsimp only); first | assumption | exact s0 | exact keep3 (by assumption) (by assumption)) (fun hHeld => ?_)
      clear hK K
      try simp only [Act.put, List.setIfInBounds_toArray, List.set_cons_zero, List.set_cons_succ]
      refine wpAnyH_take (i := 5) (oi := { dst := some 15, op := Op.binOp BinOp.add 9 (Operand.tmp 11) (Operand.tmp 14) 9, type := 9, pos := "l1_codes.go:46", after := #[{ on := 1, ground := Ground.data }, { on := 4, ground := Ground.data }], guard := none }) (v := ?_) rfl (by kernel_rfl) (by kernel_rfl) (by kernel_rfl) (fun _ _ _ h => h) (Or.inl ⟨by rfl, ?_⟩) (by assumption) ?_; rotate_left
      · intro W hW; (try dsimp only at hW); go_simp;  try (with_reducible rfl)
      try simp only [Act.put, List.setIfInBounds_toArray, List.set_cons_zero, List.set_cons_succ]
      refine wpAnyH_take (i := 6) (oi := { dst := some 16, op := Op.binOp BinOp.add 9 (Operand.tmp 15) (Operand.const (Value.string { data := #[32] })) 9, type := 9, pos := "l1_codes.go:46", after := #[{ on := 5, ground := Ground.data }], guard := none }) (v := ?_) rfl (by kernel_rfl) (by kernel_rfl) (by kernel_rfl) (fun _ _ _ h => h) (Or.inl ⟨by rfl, ?_⟩) (by assumption) ?_; rotate_left
      · intro W hW; (try dsimp only at hW); go_simp;  try (with_reducible rfl)
      try simp only [Act.put, List.setIfInBounds_toArray, List.set_cons_zero, List.set_cons_succ]
      refine wpAnyH_ready (rs := [9]) (by kernel_rfl) (by simp) (AllReadyH.cons (i := 9) (o := { dst := some 19, op := Op.call { callee := Callee.value (Operand.func 19), args := #[Operand.tmp 18], argTypes := #[3] }, type := 9, pos := "l1_codes.go:46", after := #[{ on := 8, ground := Ground.data }, { on := 4, ground := Ground.chain }], guard := none }) rfl (fun K hK => ?_) AllReadyH.nil)
      go_simp
      refine (Tryd.strconv_Itoa_small M (by omega) _).mono ?_; rintro e y2 ⟨rfl, rfl⟩
      try go_wp2_with fail
      refine hK.out _ _ (by (try dsimp only); first | assumption | exact s0 | exact keep3 (by assumption) (by assumption)) (fun hHeld => ?_)
      clear hK K
      try simp only [Act.put, List.setIfInBounds_toArray, List.set_cons_zero, List.set_cons_succ]
      refine wpAnyH_take (i := 10) (oi := { dst := some 20, op := Op.binOp BinOp.add 9 (Operand.tmp 16) (Operand.tmp 19) 9, type := 9, pos := "l1_codes.go:46", after := #[{ on := 6, ground := Ground.data }, { on := 9, ground := Ground.data }], guard := none }) (v := ?_) rfl (by kernel_rfl) (by kernel_rfl) (by kernel_rfl) (fun _ _ _ h => h) (Or.inl ⟨by rfl, ?_⟩) (by assumption) ?_; rotate_left
      · intro W hW; (try dsimp only at hW); go_simp;  try (with_reducible rfl)
      try simp only [Act.put, List.setIfInBounds_toArray, List.set_cons_zero, List.set_cons_succ]
      refine wpAnyH_take (i := 11) (oi := { dst := some 2, op := Op.assign (Operand.tmp 20), type := 9, pos := "l1_codes.go:46", after := #[{ on := 10, ground := Ground.data }, { on := 9, ground := Ground.chain }, { on := 0, ground := Ground.phase }, { on := 1, ground := Ground.phase }, { on := 2, ground := Ground.phase }, { on := 3, ground := Ground.phase }, { on := 4, ground := Ground.phase }, { on := 5, ground := Ground.phase }, { on := 6, ground := Ground.phase }, { on := 7, ground := Ground.phase }, { on := 8, ground := Ground.phase }, { on := 9, ground := Ground.phase }, { on := 10, ground := Ground.phase }], guard := none }) (v := ?_) rfl (by kernel_rfl) (by kernel_rfl) (by kernel_rfl) (fun _ _ _ h => h) (Or.inl ⟨by rfl, ?_⟩) (by assumption) ?_; rotate_left
      · intro W hW; (try dsimp only at hW); go_simp;  try (with_reducible rfl)
      try simp only [Act.put, List.setIfInBounds_toArray, List.set_cons_zero, List.set_cons_succ]
      refine wpAnyH_done (by kernel_rfl) ?_ _
      have hE := hHeld.1
      clear hHeld s0
      go_wp2_with fail
      go_ret
      exact ⟨by rw [HF.out]; rfl, hE⟩
    · skip
      have z1 : ¬ 9223372036854775807 < 4 + (Lib.decDigits L).length := by omega
      have z2 : ¬ 9223372036854775807 < 4 + (Lib.decDigits L).length + 1 := by omega
      have z3 : ¬ 9223372036854775807 < 4 + (Lib.decDigits L).length + 1 + (Lib.decDigits M).length := by omega
      have eo : (o == 1) = false := by rw [beq_eq_false_iff_ne]; exact ho
      have HO := hide ho
      clear ho
      go_enter Tryd.func11, Tryd.ntmps11
      go_wp2_with fail
      refine ((unhide CV) _).mono ?_; rintro e w0 ⟨rfl, hb0⟩
      have B0 : Below w.heap.size w w0 := below_next (Nat.le_refl _) BB hb0
      have K0 := KB.below hb0 KB.lt
      have k0 := K0.cell 0
      clear CV hb0 KB BB
      have s0 : Below w.heap.size w w0.drew ∧ w0.drew.cell? ⟨w.heap.size, 0, none⟩ = some (.int .i64 o) ∧ w0.drew.cell? ⟨w.heap.size, 1, none⟩ = some (.int .i64 (L : Int)) ∧ w0.drew.cell? ⟨w.heap.size, 2, none⟩ = some (.int .i64 (M : Int)) := ⟨B0.drew, K0.cell 0, K0.cell 1, K0.cell 2⟩
      go_wp2_with fail
      refine wp_region_held_drew (S := (fun W => Below w.heap.size w W ∧ W.cell? ⟨w.heap.size, 0, none⟩ = some (.int .i64 o) ∧ W.cell? ⟨w.heap.size, 1, none⟩ = some (.int .i64 (L : Int)) ∧ W.cell? ⟨w.heap.size, 2, none⟩ = some (.int .i64 (M : Int)))) (by kernel_rfl) (by first | assumption | exact s0 | exact keep3 (by assumption) (by assumption)) (fun hHeld => ?_)
      refine wpAnyH_take (i := 0) (oi := { dst := some 10, op := Op.move (Operand.tmp 3), type := 9, pos := "l1_codes.go:46", after := #[], guard := none }) (v := ?_) rfl (by kernel_rfl) (by kernel_rfl) (by kernel_rfl) (fun _ _ _ h => h) (Or.inl ⟨by rfl, ?_⟩) (by assumption) ?_; rotate_left
      · intro W hW; (try dsimp only at hW); go_simp;  try (with_reducible rfl)
      try simp only [Act.put, List.setIfInBounds_toArray, List.set_cons_zero, List.set_cons_succ]
      refine wpAnyH_take (i := 1) (oi := { dst := some 11, op := Op.binOp BinOp.add 9 (Operand.tmp 10) (Operand.const (Value.string { data := #[32] })) 9, type := 9, pos := "l1_codes.go:46", after := #[{ on := 0, ground := Ground.data }], guard := none }) (v := ?_) rfl (by kernel_rfl) (by kernel_rfl) (by kernel_rfl) (fun _ _ _ h => h) (Or.inl ⟨by rfl, ?_⟩) (by assumption) ?_; rotate_left
      · intro W hW; (try dsimp only at hW); go_simp;  try (with_reducible rfl)
      try simp only [Act.put, List.setIfInBounds_toArray, List.set_cons_zero, List.set_cons_succ]
      refine wpAnyH_take (i := 2) (oi := { dst := some 12, op := Op.fieldAddr 23 (Operand.tmp 1) 1, type := 0, pos := "l1_codes.go:46", after := #[], guard := none }) (v := ?_) rfl (by kernel_rfl) (by kernel_rfl) (by kernel_rfl) (fun _ _ _ h => h) (Or.inl ⟨by rfl, ?_⟩) (by assumption) ?_; rotate_left
      · intro W hW; (try dsimp only at hW); go_simp;  try (with_reducible rfl)
      try simp only [Act.put, List.setIfInBounds_toArray, List.set_cons_zero, List.set_cons_succ]
      refine wpAnyH_take (i := 3) (oi := { dst := some 13, op := Op.load 3 (Operand.tmp 12), type := 3, pos := "l1_codes.go:46", after := #[{ on := 2, ground := Ground.data }], guard := none }) (v := ?_) rfl (by kernel_rfl) (by kernel_rfl) (by kernel_rfl) (fun _ _ _ h => h) (Or.inl ⟨by rfl, ?_⟩) (by assumption) ?_; rotate_left
      · intro W hW; (try dsimp only at hW); go_simp;  try (with_reducible rfl)
      try simp only [Act.put, List.setIfInBounds_toArray, List.set_cons_zero, List.set_cons_succ]
      refine wpAnyH_take (i := 7) (oi := { dst := some 17, op := Op.fieldAddr 23 (Operand.tmp 1) 2, type := 0, pos := "l1_codes.go:46", after := #[], guard := none }) (v := ?_) rfl (by kernel_rfl) (by kernel_rfl) (by kernel_rfl) (fun _ _ _ h => h) (Or.inl ⟨by rfl, ?_⟩) (by assumption) ?_; rotate_left
      · intro W hW; (try dsimp only at hW); go_simp;  try (with_reducible rfl)
      try simp only [Act.put, List.setIfInBounds_toArray, List.set_cons_zero, List.set_cons_succ]
      refine wpAnyH_take (i := 8) (oi := { dst := some 18, op := Op.load 3 (Operand.tmp 17), type := 3, pos := "l1_codes.go:46", after := #[{ on := 7, ground := Ground.data }], guard := none }) (v := ?_) rfl (by kernel_rfl) (by kernel_rfl) (by kernel_rfl) (fun _ _ _ h => h) (Or.inl ⟨by rfl, ?_⟩) (by assumption) ?_; rotate_left
      · intro W hW; (try dsimp only at hW); go_simp;  try (with_reducible rfl)
      try simp only [Act.put, List.setIfInBounds_toArray, List.set_cons_zero, List.set_cons_succ]
      refine wpAnyH_ready (rs := [4]) (by kernel_rfl) (by simp) (AllReadyH.cons (i := 4) (o := { dst := some 14, op := Op.call { callee := Callee.value (Operand.func 19), args := #[Operand.tmp 13], argTypes := #[3] }, type := 9, pos := "l1_codes.go:46", after := #[{ on := 3, ground := Ground.data }], guard := none }) rfl (fun K hK => ?_) AllReadyH.nil)
      go_simp
      refine (Tryd.strconv_Itoa_small L (by omega) _).mono ?_; rintro e y1 ⟨rfl, rfl⟩
      try go_wp2_with fail
      refine hK.out _ _ (by (try dsimp only); first | assumption | exact s0 | exact keep3 (by assumption) (by assumption)) (fun hHeld => ?_)
      clear hK K
      try simp only [Act.put, List.setIfInBounds_toArray, List.set_cons_zero, List.set_cons_succ]
      refine wpAnyH_take (i := 5) (oi := { dst := some 15, op := Op.binOp BinOp.add 9 (Operand.tmp 11) (Operand.tmp 14) 9, type := 9, pos := "l1_codes.go:46", after := #[{ on := 1, ground := Ground.data }, { on := 4, ground := Ground.data }], guard := none }) (v := ?_) rfl (by kernel_rfl) (by kernel_rfl) (by kernel_rfl) (fun _ _ _ h => h) (Or.inl ⟨by rfl, ?_⟩) (by assumption) ?_; rotate_left
      · intro W hW; (try dsimp only at hW); go_simp;  try (with_reducible rfl)
      try simp only [Act.put, List.setIfInBounds_toArray, List.set_cons_zero, List.set_cons_succ]
      refine wpAnyH_take (i := 6) (oi := { dst := some 16, op := Op.binOp BinOp.add 9 (Operand.tmp 15) (Operand.const (Value.string { data := #[32] })) 9, type := 9, pos := "l1_codes.go:46", after := #[{ on := 5, ground := Ground.data }], guard := none }) (v := ?_) rfl (by kernel_rfl) (by kernel_rfl) (by kernel_rfl) (fun _ _ _ h => h) (Or.inl ⟨by rfl, ?_⟩) (by assumption) ?_; rotate_left
      · intro W hW; (try dsimp only at hW); go_simp;  try (with_reducible rfl)
      try simp only [Act.put, List.setIfInBounds_toArray, List.set_cons_zero, List.set_cons_succ]
      refine wpAnyH_ready (rs := [9]) (by kernel_rfl) (by simp) (AllReadyH.cons (i := 9) (o := { dst := some 19, op := Op.call { callee := Callee.value (Operand.func 19), args := #[Operand.tmp 18], argTypes := #[3] }, type := 9, pos := "l1_codes.go:46", after := #[{ on := 8, ground := Ground.data }, { on := 4, ground := Ground.chain }], guard := none }) rfl (fun K hK => ?_) AllReadyH.nil)
      go_simp
      refine (Tryd.strconv_Itoa_small M (by omega) _).mono ?_; rintro e y2 ⟨rfl, rfl⟩
      try go_wp2_with fail
      refine hK.out _ _ (by (try dsimp only); first | assumption | exact s0 | exact keep3 (by assumption) (by assumption)) (fun hHeld => ?_)
      clear hK K
      try simp only [Act.put, List.setIfInBounds_toArray, List.set_cons_zero, List.set_cons_succ]
      refine wpAnyH_take (i := 10) (oi := { dst := some 20, op := Op.binOp BinOp.add 9 (Operand.tmp 16) (Operand.tmp 19) 9, type := 9, pos := "l1_codes.go:46", after := #[{ on := 6, ground := Ground.data }, { on := 9, ground := Ground.data }], guard := none }) (v := ?_) rfl (by kernel_rfl) (by kernel_rfl) (by kernel_rfl) (fun _ _ _ h => h) (Or.inl ⟨by rfl, ?_⟩) (by assumption) ?_; rotate_left
      · intro W hW; (try dsimp only at hW); go_simp;  try (with_reducible rfl)
      try simp only [Act.put, List.setIfInBounds_toArray, List.set_cons_zero, List.set_cons_succ]
      refine wpAnyH_take (i := 11) (oi := { dst := some 2, op := Op.assign (Operand.tmp 20), type := 9, pos := "l1_codes.go:46", after := #[{ on := 10, ground := Ground.data }, { on := 9, ground := Ground.chain }, { on := 0, ground := Ground.phase }, { on := 1, ground := Ground.phase }, { on := 2, ground := Ground.phase }, { on := 3, ground := Ground.phase }, { on := 4, ground := Ground.phase }, { on := 5, ground := Ground.phase }, { on := 6, ground := Ground.phase }, { on := 7, ground := Ground.phase }, { on := 8, ground := Ground.phase }, { on := 9, ground := Ground.phase }, { on := 10, ground := Ground.phase }], guard := none }) (v := ?_) rfl (by kernel_rfl) (by kernel_rfl) (by kernel_rfl) (fun _ _ _ h => h) (Or.inl ⟨by rfl, ?_⟩) (by assumption) ?_; rotate_left
      · intro W hW; (try dsimp only at hW); go_simp;  try (with_reducible rfl)
      try simp only [Act.put, List.setIfInBounds_toArray, List.set_cons_zero, List.set_cons_succ]
      refine wpAnyH_done (by kernel_rfl) ?_ _
      have hE := hHeld.1
      clear hHeld s0
      go_wp2_with fail
      go_ret
      exact ⟨by rw [HF.out, Sx.fmtL, if_neg HO.out]; rfl, hE⟩

set_option maxRecDepth 100000 in
set_option maxHeartbeats 2000000 in
theorem spec_FormatSetting (o l m : Int) (w : World) :
    Calls Tryd.prog 9 #[sv o l m] w fun e w' => e = .returned (.string (Sx.fmtS o l m)) ∧ Below w.heap.size w w' := by
  cases hok : Sx.setOK o l m
  · have CV := hide (fun wx => by have := spec_SettingValid o l m wx; rwa [hok] at this)
    have HF := hide (show Sx.fmtS o l m = str [] from if_neg (by simp [hok]))
    have BB : Below w.heap.size w (w.alloc (.cells #[.int .i64 o, .int .i64 l, .int .i64 m] 23)) := (Below.refl _ _).alloc (Nat.le_refl _) _
    clear hok
    go_enter Tryd.func9, Tryd.ntmps9
    go_wp2_with fail
    refine ((unhide CV) _).mono ?_; rintro e w0 ⟨rfl, hb0⟩
    have B0 : Below w.heap.size w w0 := below_next (Nat.le_refl _) BB hb0
    go_wp2_with fail
    go_ret
    exact ⟨by rw [HF.out]; rfl, B0⟩
  · have CV := hide (fun wx => by have := spec_SettingValid o l m wx; rwa [hok] at this)
    have HF := hide (show Sx.fmtS o l m = str (Sx.fmtL o l m) from if_pos hok)
    have hbd := Sx.setOK_bd hok
    obtain ⟨L, rfl⟩ := Int.eq_ofNat_of_zero_le (show 0 ≤ l by omega)
    obtain ⟨M, rfl⟩ := Int.eq_ofNat_of_zero_le (show 0 ≤ m by omega)
    have BB : Below w.heap.size w (w.alloc (.cells #[.int .i64 o, .int .i64 (L : Int), .int .i64 (M : Int)] 23)) := (Below.refl _ _).alloc (Nat.le_refl _) _
    have KB := Blk.new w 23 #[.int .i64 o, .int .i64 (L : Int), .int .i64 (M : Int)]
    have hL := (Sx.dec_len L (by omega))
    have hM := (Sx.dec_len M (by omega))
    clear hok
    by_cases ho : o = 1
    · skip
      have z1 : ¬ 9223372036854775807 < 5 + (str (Lib.decDigits L)).size := by simp only [str_size]; omega
      have z2 : ¬ 9223372036854775807 < 5 + (str (Lib.decDigits L)).size + 1 := by simp only [str_size]; omega
      have z3 : ¬ 9223372036854775807 < 5 + (str (Lib.decDigits L)).size + 1 + (str (Lib.decDigits M)).size := by simp only [str_size]; omega
      subst ho
      go_enter Tryd.func9, Tryd.ntmps9
      go_wp2_with fail
      refine ((unhide CV) _).mono ?_; rintro e w0 ⟨rfl, hb0⟩
      have B0 : Below w.heap.size w w0 := below_next (Nat.le_refl _) BB hb0
      have K0 := KB.below hb0 KB.lt
      have k0 := K0.cell 0
      clear CV hb0 KB BB
      have s0 : Below w.heap.size w w0.drew ∧ w0.drew.cell? ⟨w.heap.size, 0, none⟩ = some (.int .i64 1) ∧ w0.drew.cell? ⟨w.heap.size, 1, none⟩ = some (.int .i64 (L : Int)) ∧ w0.drew.cell? ⟨w.heap.size, 2, none⟩ = some (.int .i64 (M : Int)) := ⟨B0.drew, K0.cell 0, K0.cell 1, K0.cell 2⟩
      go_wp2_with fail
      refine wp_region_held_drew (S := (fun W => Below w.heap.size w W ∧ W.cell? ⟨w.heap.size, 0, none⟩ = some (.int .i64 1) ∧ W.cell? ⟨w.heap.size, 1, none⟩ = some (.int .i64 (L : Int)) ∧ W.cell? ⟨w.heap.size, 2, none⟩ = some (.int .i64 (M : Int)))) (by kernel_rfl) (by first | assumption | exact s0 | exact keep3 (by assumption) (by assumption)) (fun hHeld => ?_)
      refine wpAnyH_take (i := 0) (oi := { dst := some 10, op := Op.move (Operand.tmp 3), type := 9, pos := "l1_codes.go:28", after := #[], guard := none }) (v := ?_) rfl (by kernel_rfl) (by kernel_rfl) (by kernel_rfl) (fun _ _ _ h => h) (Or.inl ⟨by rfl, ?_⟩) (by assumption) ?_; rotate_left
      · intro W hW; (try dsimp only at hW); go_simp;  try (with_reducible rfl)
      try simp only [Act.put, List.setIfInBounds_toArray, List.set_cons_zero, List.set_cons_succ]
      refine wpAnyH_take (i := 1) (oi := { dst := some 11, op := Op.fieldAddr 23 (Operand.tmp 1) 1, type := 0, pos := "l1_codes.go:28", after := #[], guard := none }) (v := ?_) rfl (by kernel_rfl) (by kernel_rfl) (by kernel_rfl) (fun _ _ _ h => h) (Or.inl ⟨by rfl, ?_⟩) (by assumption) ?_; rotate_left
      · intro W hW; (try dsimp only at hW); go_simp;  try (with_reducible rfl)
      try simp only [Act.put, List.setIfInBounds_toArray, List.set_cons_zero, List.set_cons_succ]
      refine wpAnyH_take (i := 2) (oi := { dst := some 12, op := Op.load 3 (Operand.tmp 11), type := 3, pos := "l1_codes.go:28", after := #[{ on := 1, ground := Ground.data }], guard := none }) (v := ?_) rfl (by kernel_rfl) (by kernel_rfl) (by kernel_rfl) (fun _ _ _ h => h) (Or.inl ⟨by rfl, ?_⟩) (by assumption) ?_; rotate_left
      · intro W hW; (try dsimp only at hW); go_simp;  try (with_reducible rfl)
      try simp only [Act.put, List.setIfInBounds_toArray, List.set_cons_zero, List.set_cons_succ]
      refine wpAnyH_take (i := 6) (oi := { dst := some 16, op := Op.fieldAddr 23 (Operand.tmp 1) 2, type := 0, pos := "l1_codes.go:28", after := #[], guard := none }) (v := ?_) rfl (by kernel_rfl) (by kernel_rfl) (by kernel_rfl) (fun _ _ _ h => h) (Or.inl ⟨by rfl, ?_⟩) (by assumption) ?_; rotate_left
      · intro W hW; (try dsimp only at hW); go_simp;  try (with_reducible rfl)
      try simp only [Act.put, List.setIfInBounds_toArray, List.set_cons_zero, List.set_cons_succ]
      refine wpAnyH_take (i := 7) (oi := { dst := some 17, op := Op.load 3 (Operand.tmp 16), type := 3, pos := "l1_codes.go:28", after := #[{ on := 6, ground := Ground.data }], guard := none }) (v := ?_) rfl (by kernel_rfl) (by kernel_rfl) (by kernel_rfl) (fun _ _ _ h => h) (Or.inl ⟨by rfl, ?_⟩) (by assumption) ?_; rotate_left
      · intro W hW; (try dsimp only at hW); go_simp;  try (with_reducible rfl)
      try simp only [Act.put, List.setIfInBounds_toArray, List.set_cons_zero, List.set_cons_succ]
      refine wpAnyH_ready (rs := [3]) (by kernel_rfl) (by simp) (AllReadyH.cons (i := 3) (o := { dst := some 13, op := Op.call { callee := Callee.value (Operand.func 18), args := #[Operand.tmp 12], argTypes := #[3] }, type := 9, pos := "l1_codes.go:28", after := #[{ on := 2, ground := Ground.data }], guard := none }) rfl (fun K hK => ?_) AllReadyH.nil)
      go_simp
      refine (spec_l9Dec L (by omega) _).mono ?_; rintro e y1 ⟨rfl, hb⟩
      try go_wp2_with fail
      refine hK.out _ _ (by (try dsimp only); first | assumption | exact s0 | exact keep3 (by assumption) (by assumption)) (fun hHeld => ?_)
      clear hK K
      try simp only [Act.put, List.setIfInBounds_toArray, List.set_cons_zero, List.set_cons_succ]
      refine wpAnyH_take (i := 4) (oi := { dst := some 14, op := Op.binOp BinOp.add 9 (Operand.tmp 10) (Operand.tmp 13) 9, type := 9, pos := "l1_codes.go:28", after := #[{ on := 0, ground := Ground.data }, { on := 3, ground := Ground.data }], guard := none }) (v := ?_) rfl (by kernel_rfl) (by kernel_rfl) (by kernel_rfl) (fun _ _ _ h => h) (Or.inl ⟨by rfl, ?_⟩) (by assumption) ?_; rotate_left
      · intro W hW; (try dsimp only at hW); go_simp;  try (with_reducible rfl)
      try simp only [Act.put, List.setIfInBounds_toArray, List.set_cons_zero, List.set_cons_succ]
      refine wpAnyH_take (i := 5) (oi := { dst := some 15, op := Op.binOp BinOp.add 9 (Operand.tmp 14) (Operand.const (Value.string { data := #[32] })) 9, type := 9, pos := "l1_codes.go:28", after := #[{ on := 4, ground := Ground.data }], guard := none }) (v := ?_) rfl (by kernel_rfl) (by kernel_rfl) (by kernel_rfl) (fun _ _ _ h => h) (Or.inl ⟨by rfl, ?_⟩) (by assumption) ?_; rotate_left
      · intro W hW; (try dsimp only at hW); go_simp;  try (with_reducible rfl)
      try simp only [Act.put, List.setIfInBounds_toArray, List.set_cons_zero, List.set_cons_succ]
      refine wpAnyH_ready (rs := [8]) (by kernel_rfl) (by simp) (AllReadyH.cons (i := 8) (o := { dst := some 18, op := Op.call { callee := Callee.value (Operand.func 18), args := #[Operand.tmp 17], argTypes := #[3] }, type := 9, pos := "l1_codes.go:28", after := #[{ on := 7, ground := Ground.data }, { on := 3, ground := Ground.chain }], guard := none }) rfl (fun K hK => ?_) AllReadyH.nil)
      go_simp
      refine (spec_l9Dec M (by omega) _).mono ?_; rintro e y2 ⟨rfl, hb⟩
      try go_wp2_with fail
      refine hK.out _ _ (by (try dsimp only); first | assumption | exact s0 | exact keep3 (by assumption) (by assumption)) (fun hHeld => ?_)
      clear hK K
      try simp only [Act.put, List.setIfInBounds_toArray, List.set_cons_zero, List.set_cons_succ]
      refine wpAnyH_take (i := 9) (oi := { dst := some 19, op := Op.binOp BinOp.add 9 (Operand.tmp 15) (Operand.tmp 18) 9, type := 9, pos := "l1_codes.go:28", after := #[{ on := 5, ground := Ground.data }, { on := 8, ground := Ground.data }], guard := none }) (v := ?_) rfl (by kernel_rfl) (by kernel_rfl) (by kernel_rfl) (fun _ _ _ h => h) (Or.inl ⟨by rfl, ?_⟩) (by assumption) ?_; rotate_left
      · intro W hW; (try dsimp only at hW); go_simp;  try (with_reducible rfl)
      try simp only [Act.put, List.setIfInBounds_toArray, List.set_cons_zero, List.set_cons_succ]
      refine wpAnyH_take (i := 10) (oi := { dst := some 2, op := Op.assign (Operand.tmp 19), type := 9, pos := "l1_codes.go:28", after := #[{ on := 9, ground := Ground.data }, { on := 8, ground := Ground.chain }, { on := 0, ground := Ground.phase }, { on := 1, ground := Ground.phase }, { on := 2, ground := Ground.phase }, { on := 3, ground := Ground.phase }, { on := 4, ground := Ground.phase }, { on := 5, ground := Ground.phase }, { on := 6, ground := Ground.phase }, { on := 7, ground := Ground.phase }, { on := 8, ground := Ground.phase }, { on := 9, ground := Ground.phase }], guard := none }) (v := ?_) rfl (by kernel_rfl) (by kernel_rfl) (by kernel_rfl) (fun _ _ _ h => h) (Or.inl ⟨by rfl, ?_⟩) (by assumption) ?_; rotate_left
      · intro W hW; (try dsimp only at hW); go_simp;  try (with_reducible rfl)
      try simp only [Act.put, List.setIfInBounds_toArray, List.set_cons_zero, List.set_cons_succ]
      refine wpAnyH_done (by kernel_rfl) ?_ _
      have hE := hHeld.1
      clear hHeld s0
      go_wp2_with fail
      go_ret
      exact ⟨by rw [HF.out]; rfl, hE⟩
    · skip
      have z1 : ¬ 9223372036854775807 < 4 + (str (Lib.decDigits L)).size := by simp only [str_size]; omega
      have z2 : ¬ 9223372036854775807 < 4 + (str (Lib.decDigits L)).size + 1 := by simp only [str_size]; omega
      have z3 : ¬ 9223372036854775807 < 4 + (str (Lib.decDigits L)).size + 1 + (str (Lib.decDigits M)).size := by simp only [str_size]; omega
      have eo : (o == 1) = false := by rw [beq_eq_false_iff_ne]; exact ho
      have HO := hide ho
      clear ho
      go_enter Tryd.func9, Tryd.ntmps9
      go_wp2_with fail
      refine ((unhide CV) _).mono ?_; rintro e w0 ⟨rfl, hb0⟩
      have B0 : Below w.heap.size w w0 := below_next (Nat.le_refl _) BB hb0
      have K0 := KB.below hb0 KB.lt
      have k0 := K0.cell 0
      clear CV hb0 KB BB
      have s0 : Below w.heap.size w w0.drew ∧ w0.drew.cell? ⟨w.heap.size, 0, none⟩ = some (.int .i64 o) ∧ w0.drew.cell? ⟨w.heap.size, 1, none⟩ = some (.int .i64 (L : Int)) ∧ w0.drew.cell? ⟨w.heap.size, 2, none⟩ = some (.int .i64 (M : Int)) := ⟨B0.drew, K0.cell 0, K0.cell 1, K0.cell 2⟩
      go_wp2_with fail
      refine wp_region_held_drew (S := (fun W => Below w.heap.size w W ∧ W.cell? ⟨w.heap.size, 0, none⟩ = some (.int .i64 o) ∧ W.cell? ⟨w.heap.size, 1, none⟩ = some (.int .i64 (L : Int)) ∧ W.cell? ⟨w.heap.size, 2, none⟩ = some (.int .i64 (M : Int)))) (by kernel_rfl) (by first | assumption | exact s0 | exact keep3 (by assumption) (by assumption)) (fun hHeld => ?_)
      refine wpAnyH_take (i := 0) (oi := { dst := some 10, op := Op.move (Operand.tmp 3), type := 9, pos := "l1_codes.go:28", after := #[], guard := none }) (v := ?_) rfl (by kernel_rfl) (by kernel_rfl) (by kernel_rfl) (fun _ _ _ h => h) (Or.inl ⟨by rfl, ?_⟩) (by assumption) ?_; rotate_left
      · intro W hW; (try dsimp only at hW); go_simp;  try (with_reducible rfl)
      try simp only [Act.put, List.setIfInBounds_toArray, List.set_cons_zero, List.set_cons_succ]
      refine wpAnyH_take (i := 1) (oi := { dst := some 11, op := Op.fieldAddr 23 (Operand.tmp 1) 1, type := 0, pos := "l1_codes.go:28", after := #[], guard := none }) (v := ?_) rfl (by kernel_rfl) (by kernel_rfl) (by kernel_rfl) (fun _ _ _ h => h) (Or.inl ⟨by rfl, ?_⟩) (by assumption) ?_; rotate_left
      · intro W hW; (try dsimp only at hW); go_simp;  try (with_reducible rfl)
      try simp only [Act.put, List.setIfInBounds_toArray, List.set_cons_zero, List.set_cons_succ]
      refine wpAnyH_take (i := 2) (oi := { dst := some 12, op := Op.load 3 (Operand.tmp 11), type := 3, pos := "l1_codes.go:28", after := #[{ on := 1, ground := Ground.data }], guard := none }) (v := ?_) rfl (by kernel_rfl) (by kernel_rfl) (by kernel_rfl) (fun _ _ _ h => h) (Or.inl ⟨by rfl, ?_⟩) (by assumption) ?_; rotate_left
      · intro W hW; (try dsimp only at hW); go_simp;  try (with_reducible rfl)
      try simp only [Act.put, List.setIfInBounds_toArray, List.set_cons_zero, List.set_cons_succ]
      refine wpAnyH_take (i := 6) (oi := { dst := some 16, op := Op.fieldAddr 23 (Operand.tmp 1) 2, type := 0, pos := "l1_codes.go:28", after := #[], guard := none }) (v := ?_) rfl (by kernel_rfl) (by kernel_rfl) (by kernel_rfl) (fun _ _ _ h => h) (Or.inl ⟨by rfl, ?_⟩) (by assumption) ?_; rotate_left
      · intro W hW; (try dsimp only at hW); go_simp;  try (with_reducible rfl)
      try simp only [Act.put, List.setIfInBounds_toArray, List.set_cons_zero, List.set_cons_succ]
      refine wpAnyH_take (i := 7) (oi := { dst := some 17, op := Op.load 3 (Operand.tmp 16), type := 3, pos := "l1_codes.go:28", after := #[{ on := 6, ground := Ground.data }], guard := none }) (v := ?_) rfl (by kernel_rfl) (by kernel_rfl) (by kernel_rfl) (fun _ _ _ h => h) (Or.inl ⟨by rfl, ?_⟩) (by assumption) ?_; rotate_left
      · intro W hW; (try dsimp only at hW); go_simp;  try (with_reducible rfl)
      try simp only [Act.put, List.setIfInBounds_toArray, List.set_cons_zero, List.set_cons_succ]
      refine wpAnyH_ready (rs := [3]) (by kernel_rfl) (by simp) (AllReadyH.cons (i := 3) (o := { dst := some 13, op := Op.call { callee := Callee.value (Operand.func 18), args := #[Operand.tmp 12], argTypes := #[3] }, type := 9, pos := "l1_codes.go:28", after := #[{ on := 2, ground := Ground.data }], guard := none }) rfl (fun K hK => ?_) AllReadyH.nil)
      go_simp
      refine (spec_l9Dec L (by omega) _).mono ?_; rintro e y1 ⟨rfl, hb⟩
      try go_wp2_with fail
      refine hK.out _ _ (by (try dsimp only); first | assumption | exact s0 | exact keep3 (by assumption) (by assumption)) (fun hHeld => ?_)
      clear hK K
      try simp only [Act.put, List.setIfInBounds_toArray, List.set_cons_zero, List.set_cons_succ]
      refine wpAnyH_take (i := 4) (oi := { dst := some 14, op := Op.binOp BinOp.add 9 (Operand.tmp 10) (Operand.tmp 13) 9, type := 9, pos := "l1_codes.go:28", after := #[{ on := 0, ground := Ground.data }, { on := 3, ground := Ground.data }], guard := none }) (v := ?_) rfl (by kernel_rfl) (by kernel_rfl) (by kernel_rfl) (fun _ _ _ h => h) (Or.inl ⟨by rfl, ?_⟩) (by assumption) ?_; rotate_left
      · intro W hW; (try dsimp only at hW); go_simp;  try (with_reducible rfl)
      try simp only [Act.put, List.setIfInBounds_toArray, List.set_cons_zero, List.set_cons_succ]
      refine wpAnyH_take (i := 5) (oi := { dst := some 15, op := Op.binOp BinOp.add 9 (Operand.tmp 14) (Operand.const (Value.string { data := #[32] })) 9, type := 9, pos := "l1_codes.go:28", after := #[{ on := 4, ground := Ground.data }], guard := none }) (v := ?_) rfl (by kernel_rfl) (by kernel_rfl) (by kernel_rfl) (fun _ _ _ h => h) (Or.inl ⟨by rfl, ?_⟩) (by assumption) ?_; rotate_left
      · intro W hW; (try dsimp only at hW); go_simp;  try (with_reducible rfl)
      try simp only [Act.put, List.setIfInBounds_toArray, List.set_cons_zero, List.set_cons_succ]
      refine wpAnyH_ready (rs := [8]) (by kernel_rfl) (by simp) (AllReadyH.cons (i := 8) (o := { dst := some 18, op := Op.call { callee := Callee.value (Operand.func 18), args := #[Operand.tmp 17], argTypes := #[3] }, type := 9, pos := "l1_codes.go:28", after := #[{ on := 7, ground := Ground.data }, { on := 3, ground := Ground.chain }], guard := none }) rfl (fun K hK => ?_) AllReadyH.nil)
      go_simp
      refine (spec_l9Dec M (by omega) _).mono ?_; rintro e y2 ⟨rfl, hb⟩
      try go_wp2_with fail
      refine hK.out _ _ (by (try dsimp only); first | assumption | exact s0 | exact keep3 (by assumption) (by assumption)) (fun hHeld => ?_)
      clear hK K
      try simp only [Act.put, List.setIfInBounds_toArray, List.set_cons_zero, List.set_cons_succ]
      refine wpAnyH_take (i := 9) (oi := { dst := some 19, op := Op.binOp BinOp.add 9 (Operand.tmp 15) (Operand.tmp 18) 9, type := 9, pos := "l1_codes.go:28", after := #[{ on := 5, ground := Ground.data }, { on := 8, ground := Ground.data }], guard := none }) (v := ?_) rfl (by kernel_rfl) (by kernel_rfl) (by kernel_rfl) (fun _ _ _ h => h) (Or.inl ⟨by rfl, ?_⟩) (by assumption) ?_; rotate_left
      · intro W hW; (try dsimp only at hW); go_simp;  try (with_reducible rfl)
      try simp only [Act.put, List.setIfInBounds_toArray, List.set_cons_zero, List.set_cons_succ]
      refine wpAnyH_take (i := 10) (oi := { dst := some 2, op := Op.assign (Operand.tmp 19), type := 9, pos := "l1_codes.go:28", after := #[{ on := 9, ground := Ground.data }, { on := 8, ground := Ground.chain }, { on := 0, ground := Ground.phase }, { on := 1, ground := Ground.phase }, { on := 2, ground := Ground.phase }, { on := 3, ground := Ground.phase }, { on := 4, ground := Ground.phase }, { on := 5, ground := Ground.phase }, { on := 6, ground := Ground.phase }, { on := 7, ground := Ground.phase }, { on := 8, ground := Ground.phase }, { on := 9, ground := Ground.phase }], guard := none }) (v := ?_) rfl (by kernel_rfl) (by kernel_rfl) (by kernel_rfl) (fun _ _ _ h => h) (Or.inl ⟨by rfl, ?_⟩) (by assumption) ?_; rotate_left
      · intro W hW; (try dsimp only at hW); go_simp;  try (with_reducible rfl)
      try simp only [Act.put, List.setIfInBounds_toArray, List.set_cons_zero, List.set_cons_succ]
      refine wpAnyH_done (by kernel_rfl) ?_ _
      have hE := hHeld.1
      clear hHeld s0
      go_wp2_with fail
      go_ret
      exact ⟨by rw [HF.out, Sx.fmtL, if_neg HO.out]; rfl, hE⟩

end Go.Proofs.YthdmnpjdpfeleaaDoor

/- The walk of the model's ParseSetting. Conditions: none. -/
import Derived.Test.YthdmnpjdpfeleaaDoorPs
namespace Go.Proofs.YthdmnpjdpfeleaaDoor
open Go.RowKit

/-- No setting ahead of this one has the text t. -/
def Sx.NoT (t : ByteArray) (o l m : Nat) : Prop := ∀ o' l' m' : Int, Sx.setOK o' l' m' = true → (o' < o ∨ (o' = o ∧ (l' < l ∨ (l' = l ∧ m' < m)))) → str (Sx.fmtL o' l' m') ≠ t
theorem Sx.not_start (t : ByteArray) : Sx.NoT t 0 1 1 := fun o' l' m' h hl => by
  have := Sx.setOK_bd h
  have := Sx.setOK_od h
  omega
theorem Sx.not_m {t : ByteArray} {o l m : Nat} (h : Sx.NoT t o l m) (hn : Sx.setOK o l m = true → str (Sx.fmtL o l m) ≠ t) : Sx.NoT t o l (m + 1) := fun o' l' m' hk hl => by
  by_cases he : o' = o ∧ l' = l ∧ m' = m
  · obtain ⟨rfl, rfl, rfl⟩ := he
    exact hn hk
  · exact h o' l' m' hk (by omega)
theorem Sx.not_l {t : ByteArray} {o l : Nat} (h : Sx.NoT t o l 11) : Sx.NoT t o (l + 1) 1 := fun o' l' m' hk hl => h o' l' m' hk (by have := Sx.setOK_bd hk; omega)
theorem Sx.not_o {t : ByteArray} {o : Nat} (h : Sx.NoT t o 9 1) : Sx.NoT t (o + 1) 1 1 := fun o' l' m' hk hl => h o' l' m' hk (by have := Sx.setOK_bd hk; omega)
theorem Sx.not_end {t : ByteArray} (h : Sx.NoT t 2 1 1) : ∀ o' l' m' : Int, Sx.setOK o' l' m' = true → str (Sx.fmtL o' l' m') ≠ t := fun o' l' m' hk => h o' l' m' hk (by have := Sx.setOK_od hk; omega)
theorem Sx.fmt_yes {o l m : Int} (h : Sx.setOK o l m = true) : Sx.fmtS o l m = str (Sx.fmtL o l m) := if_pos h

theorem below_set3' {B : Nat} {a w : World} {g : Nat} (h : Below B a w) (hg : B ≤ g) (x y z : Value) : Below B a (((w.setCell ⟨g, 0, none⟩ x).setCell ⟨g, 1, none⟩ y).setCell ⟨g, 2, none⟩ z) := ((h.setCell hg x).setCell hg y).setCell hg z
theorem blk3_set {w : World} {g : Nat} {t : TypeId} {a0 a1 a2 : Value} (h : Blk w g t #[a0, a1, a2]) (x y z : Value) : Blk (((w.setCell ⟨g, 0, none⟩ x).setCell ⟨g, 1, none⟩ y).setCell ⟨g, 2, none⟩ z) g t #[x, y, z] := ((h.set_ 0 x).set_ 1 y).set_ 2 z

set_option maxRecDepth 100000 in
set_option maxHeartbeats 4000000 in
theorem spec_ParseSetting (t : ByteArray) (w : World) :
    Calls Tryd.prog 6 #[.string t] w fun e w' => Sx.ParseR t e ∧ Below w.heap.size w w' := by
  have B0 : Below w.heap.size w (w.alloc (.cells #[.int .i64 0, .int .i64 0, .int .i64 0] 23)) := (Below.refl _ _).alloc (Nat.le_refl _) _
  have R0 := Blk.new w 23 #[.int .i64 0, .int .i64 0, .int .i64 0]
  have HT0 := hide (Sx.not_start t)
  go_enter Tryd.func6, Tryd.ntmps6
  go_wp2_with fail
  go_loopw [4] (fun s4 wr => ∃ o : Nat, s4 = .int .i64 o ∧ o ≤ 2 ∧ Hid (Sx.NoT t o 1 1) ∧ Blk wr w.heap.size 23 #[.int .i64 0, .int .i64 0, .int .i64 0] ∧ Below w.heap.size w wr) (fun s4 _ => 2 - (intOf s4).toNat)
  case atStart => exact ⟨0, rfl, by omega, HT0, R0, B0⟩
  case round =>
    clear R0 B0 HT0
    obtain ⟨o, rfl, ho, HT0, R0, B0⟩ := hrel
    by_cases ho1 : o ≤ 1
    · have hoI : (o : Int) ≤ 1 := by omega
      go_wp2_with fail
      go_loopw [5] (fun s5 wr => ∃ l : Nat, s5 = .int .i64 l ∧ l ≤ 9 ∧ Hid (Sx.NoT t o l 1) ∧ Blk wr w.heap.size 23 #[.int .i64 0, .int .i64 0, .int .i64 0] ∧ Below w.heap.size w wr) (fun s5 _ => 9 - (intOf s5).toNat)
      case atStart => exact ⟨1, rfl, by omega, HT0, R0, B0⟩
      case round =>
        clear R0 B0 HT0
        obtain ⟨l, rfl, hl, HT0, R0, B0⟩ := hrel
        by_cases hl1 : l ≤ 8
        · have hlI : (l : Int) ≤ 8 := by omega
          go_wp2_with fail
          go_loopw [6] (fun s6 wr => ∃ m : Nat, s6 = .int .i64 m ∧ m ≤ 11 ∧ Hid (Sx.NoT t o l m) ∧ Blk wr w.heap.size 23 #[.int .i64 0, .int .i64 0, .int .i64 0] ∧ Below w.heap.size w wr) (fun s6 _ => 11 - (intOf s6).toNat)
          case atStart => exact ⟨1, rfl, by omega, HT0, R0, B0⟩
          case round =>
            clear R0 B0 HT0
            obtain ⟨m, rfl, hm, HT, R0, B0⟩ := hrel
            by_cases hm1 : m ≤ 10
            · have hmI : (m : Int) ≤ 10 := by omega
              have BX : Below wr.heap.size wr (wr.alloc (.cells #[.int .i64 (o : Int), .int .i64 (l : Int), .int .i64 (m : Int)] 23)) := (Below.refl _ _).alloc (Nat.le_refl _) _
              have K1 := Blk.new wr 23 #[.int .i64 (o : Int), .int .i64 (l : Int), .int .i64 (m : Int)]
              have R1 := R0.below BX R0.lt
              have B1 := below_next (Nat.le_refl _) B0 BX
              clear R0 B0 BX
              have a0 : (wr.alloc (.cells #[.int .i64 (o : Int), .int .i64 (l : Int), .int .i64 (m : Int)] 23)).cell? ⟨wr.heap.size, 0, none⟩ = some (.int .i64 (o : Int)) := K1.cell 0
              have a1 : (wr.alloc (.cells #[.int .i64 (o : Int), .int .i64 (l : Int), .int .i64 (m : Int)] 23)).cell? ⟨wr.heap.size, 1, none⟩ = some (.int .i64 (l : Int)) := K1.cell 1
              have a2 : (wr.alloc (.cells #[.int .i64 (o : Int), .int .i64 (l : Int), .int .i64 (m : Int)] 23)).cell? ⟨wr.heap.size, 2, none⟩ = some (.int .i64 (m : Int)) := K1.cell 2
              have CV := hide (fun wx => spec_SettingValid o l m wx)
              cases hok : Sx.setOK o l m
              · have CV := CV.out
                rw [hok] at CV
                have CV := hide CV
                have HN := hide (Sx.not_m HT.out (fun h => by rw [hok] at h; cases h))
                clear hok
                go_wp2_with fail
                refine ((unhide CV) _).mono ?_; rintro e w2 ⟨rfl, hb2⟩
                have R2 := R1.below hb2 R1.lt
                have B2 := below_next (Nat.le_refl _) B1 hb2
                clear R1 B1 K1 a0 a1 a2 CV
                have e7 : IntKind.i64.wrap ((m : Int) + 1) = ((m + 1 : Nat) : Int) := by rw [IntWalk.i64_in _ (by omega)]; omega
                go_wp2_with fail
                go_roundw
                case rel => exact ⟨m + 1, rfl, by omega, HN, R2, B2⟩
                case measure => simp [intOf]; omega
              · have CV := CV.out
                rw [hok] at CV
                have CV := hide CV
                have CF := hide (fun wx => by have := spec_FormatSetting o l m wx; rwa [Sx.fmt_yes hok] at this)
                have HOK := hide hok
                clear hok
                go_wp2_with fail
                refine ((unhide CV) _).mono ?_; rintro e w2 ⟨rfl, hb2⟩
                have R2 := R1.below hb2 R1.lt
                have K2 := K1.below hb2 K1.lt
                have B2 := below_next (Nat.le_refl _) B1 hb2
                clear R1 B1 K1 a0 a1 a2 CV
                have a0 : w2.cell? ⟨wr.heap.size, 0, none⟩ = some (.int .i64 (o : Int)) := K2.cell 0
                have a1 : w2.cell? ⟨wr.heap.size, 1, none⟩ = some (.int .i64 (l : Int)) := K2.cell 1
                have a2 : w2.cell? ⟨wr.heap.size, 2, none⟩ = some (.int .i64 (m : Int)) := K2.cell 2
                go_wp2_with fail
                refine ((unhide CF) _).mono ?_; rintro e w3 ⟨rfl, hb3⟩
                have R3 := R2.below hb3 R2.lt
                have K3 := K2.below hb3 K2.lt
                have B3 := below_next (Nat.le_refl _) B2 hb3
                clear R2 B2 K2 a0 a1 a2 CF
                by_cases ht : str (Sx.fmtL o l m) = t
                · have et : ((str (Sx.fmtL o l m)).toList == t.toList) = true := Sx.text_eq ht
                  have HTT := hide ht
                  clear ht
                  have a0 : w3.cell? ⟨wr.heap.size, 0, none⟩ = some (.int .i64 (o : Int)) := K3.cell 0
                  have a1 : w3.cell? ⟨wr.heap.size, 1, none⟩ = some (.int .i64 (l : Int)) := K3.cell 1
                  have a2 : w3.cell? ⟨wr.heap.size, 2, none⟩ = some (.int .i64 (m : Int)) := K3.cell 2
                  have r0 : w3.cell? ⟨w.heap.size, 0, none⟩ = some (.int .i64 0) := R3.cell 0
                  have r1 : w3.cell? ⟨w.heap.size, 1, none⟩ = some (.int .i64 0) := R3.cell 1
                  have r2 : w3.cell? ⟨w.heap.size, 2, none⟩ = some (.int .i64 0) := R3.cell 2
                  have fr0 := R3.frozen 0
                  have fr1 := R3.frozen 1
                  have fr2 := R3.frozen 2
                  go_wp2_with fail
                  have q := blk3_set R3 (.int .i64 (o : Int)) (.int .i64 (l : Int)) (.int .i64 (m : Int))
                  have q0 := q.cell 0
                  have q1 := q.cell 1
                  have q2 := q.cell 2
                  exact bodyPost_ret (v := .tuple #[sv o l m, .bool true]) (by simp [results, Tryd.results6, go_sem, q0, q1, q2]) rfl ⟨.inl ⟨o, l, m, HOK.out, HTT.out, rfl⟩, below_set3' B3 (Nat.le_refl _) _ _ _⟩
                · have et : ((str (Sx.fmtL o l m)).toList == t.toList) = false := Sx.text_ne ht
                  have HN := hide (Sx.not_m HT.out (fun _ => ht))
                  clear ht
                  have e7 : IntKind.i64.wrap ((m : Int) + 1) = ((m + 1 : Nat) : Int) := by rw [IntWalk.i64_in _ (by omega)]; omega
                  go_wp2_with fail
                  go_roundw
                  case rel => exact ⟨m + 1, rfl, by omega, HN, R3, B3⟩
                  case measure => simp [intOf]; omega
            · have hmI : ¬ (m : Int) ≤ 10 := by omega
              obtain rfl : m = 11 := by omega
              have HN := hide (Sx.not_l HT.out)
              have e7 : IntKind.i64.wrap ((l : Int) + 1) = ((l + 1 : Nat) : Int) := by rw [IntWalk.i64_in _ (by omega)]; omega
              go_wp2_with fail
              go_roundw
              case rel => exact ⟨l + 1, rfl, by omega, HN, R0, B0⟩
              case measure => simp [intOf]; omega
        · have hlI : ¬ (l : Int) ≤ 8 := by omega
          obtain rfl : l = 9 := by omega
          have HN := hide (Sx.not_o HT0.out)
          have e7 : IntKind.i64.wrap ((o : Int) + 1) = ((o + 1 : Nat) : Int) := by rw [IntWalk.i64_in _ (by omega)]; omega
          go_wp2_with fail
          go_roundw
          case rel => exact ⟨o + 1, rfl, by omega, HN, R0, B0⟩
          case measure => simp [intOf]; omega
    · have hoI : ¬ (o : Int) ≤ 1 := by omega
      obtain rfl : o = 2 := by omega
      have HN := hide (Sx.not_end HT0.out)
      have r0 : wr.cell? ⟨w.heap.size, 0, none⟩ = some (.int .i64 0) := R0.cell 0
      have r1 : wr.cell? ⟨w.heap.size, 1, none⟩ = some (.int .i64 0) := R0.cell 1
      have r2 : wr.cell? ⟨w.heap.size, 2, none⟩ = some (.int .i64 0) := R0.cell 2
      have fr0 := R0.frozen 0
      have fr1 := R0.frozen 1
      have fr2 := R0.frozen 2
      go_wp2_with fail
      have q := blk3_set R0 (.int .i64 0) (.int .i64 0) (.int .i64 0)
      have q0 := q.cell 0
      have q1 := q.cell 1
      have q2 := q.cell 2
      exact bodyPost_ret (v := .tuple #[sv 0 0 0, .bool false]) (by simp [results, Tryd.results6, go_sem, q0, q1, q2]) rfl ⟨.inr ⟨HN.out, rfl⟩, below_set3' B0 (Nat.le_refl _) _ _ _⟩
end Go.Proofs.YthdmnpjdpfeleaaDoor

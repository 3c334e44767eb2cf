/- The walk of FnStart. Conditions: a slice of bytes. -/
import Derived.Test.YtegfcpdkehgdpaaDs
import Derived.Test.YtegfcpdkehgdpaaSo
import Derived.Test.YtegfcpdkehgdpaaKS
import Derived.Test.YtegfcpdkehgdpaaPk2
namespace Go.Proofs.Ytegfcpdkehgdpaa
open Go.RowKit

set_option maxRecDepth 100000 in
set_option maxHeartbeats 1000000 in
theorem draw_Start (A : Option Addr) (n c : Nat) (w : World) (h : Src w w.heap.size A n) (hn : n ≤ 1048576) (hc : n ≤ c) (hcm : c ≤ maxLen) :
    Calls Try.prog 35 #[.slice A n c] w (DrawSet w) := by
  have HO := hide (draw_SettingValid A n c _ (h.next ((Below.refl _ _).alloc (Nat.le_refl _) (.cells #[.int .i64 0, .int .i64 0, .int .i64 0] 28))) hn hc hcm)
  have K0 := hide (Blk.new w 28 #[.int .i64 0, .int .i64 0, .int .i64 0])
  have hz := box_size w (.cells #[.int .i64 0, .int .i64 0, .int .i64 0] 28)
  clear h
  go_enter Try.func35, Try.ntmps35
  go_wp2_with fail
  refine (unhide HO).mono ?_; rintro e w1 ⟨o, l, m, rfl, hf, hb1⟩
  have kb1 := K0.out.below hb1 (by omega)
  have hb := below_box (hb1.mono hz)
  clear HO K0 hb1
  have c0 : w1.cell? ⟨w.heap.size, 0, none⟩ = some (.int .i64 0) := kb1.cell 0
  have c1 : w1.cell? ⟨w.heap.size, 1, none⟩ = some (.int .i64 0) := kb1.cell 1
  have c2 : w1.cell? ⟨w.heap.size, 2, none⟩ = some (.int .i64 0) := kb1.cell 2
  have f0 := kb1.frozen 0
  have f1 := kb1.frozen 1
  have f2 := kb1.frozen 2
  go_wp2_with fail
  have q := blk3_set kb1 (.int .i64 o) (.int .i64 l) (.int .i64 m)
  have q0 := q.cell 0
  have q1 := q.cell 1
  have q2 := q.cell 2
  exact bodyPost_ret (v := sv o l m) (by simp [results, Try.results35, go_sem, q0, q1, q2]) rfl ⟨o, l, m, rfl, hf, below_set3 hb (Nat.le_refl _) _ _ _⟩

theorem so0 (o l m b t : Int) (w : World) : Calls Try.prog 38 #[kv o l m none 0 0 b t, kv o l m none 0 0 b t] w fun e w' => e = .returned (.bool true) ∧ Below w.heap.size w w' :=
  laws_soKnown o l m none none 0 0 b t [] w (fun h => absurd h (by simp)) (fun h => absurd h (by simp)) (by simp)
theorem pr0 (w : World) (B : Nat) (A : Option Addr) : PR w B A [] := fun h => absurd h (by simp)
theorem Sx.start_ok {o l m : Int} (h : Sx.setOK o l m = true) : Sx.kOK o l m [] 0 (-1) = true ∧ Sx.growsB l m 0 (-1) = false ∧ Sx.greatI l m 0 (-1) = Sx.two l + 1 ∧ Sx.widthI l m 0 (-1) = l + 1 := by
  have hb := Sx.setOK_bd h
  have h1 := Sx.two_step (a := l) (b := m) (by omega) (by omega)
  have h2 := Sx.two_pos l
  have hg : Sx.growsB l m 0 (-1) = false := decide_eq_false (by omega)
  have hr : Sx.greatI l m 0 (-1) = Sx.two l + 1 := by rw [Sx.great_no hg]; simp
  refine ⟨?_, hg, hr, ?_⟩
  · rw [Sx.kOK_last h (by simp only [List.length_nil]; omega) (by simp) (by simp [Sx.pairsOK])]
    simp
  · unfold Sx.widthI
    rw [hr]
    have hn : Sx.needI (Sx.two l + 1) = l + 1 := Sx.need_end (by omega) (by omega)
    rw [hn]; omega

set_option maxRecDepth 100000 in
set_option maxHeartbeats 4000000 in
theorem law_FnStart (A : Option Addr) (n c : Nat) (w : World) (h : Src w w.heap.size A n) (hc : n ≤ c) (hcm : c ≤ maxLen) :
    Calls Try.prog 8 #[.slice A n c] w fun e w' => e = .returned (.bool true) ∧ Below w.heap.size w w' := by
  by_cases hn : n ≤ 1048576
  · have HD := hide (draw_Start A n c w h hn hc hcm)
    have B0 : Below w.heap.size w w := Below.refl _ _
    clear h
    go_enter Try.func8, Try.ntmps8
    go_wp2_with fail
    refine ((unhide HD)).mono ?_; rintro e w1 ⟨o, l, m, rfl, hf, hb⟩
    have s1 : w.heap.size ≤ w1.heap.size := Below.size hb
    have B1 := below_next (Nat.le_refl _) B0 hb
    clear B0 hb
    clear HD
    have s2 : (w1.alloc (.cells #[.int .i64 o, .int .i64 l, .int .i64 m] 28)).heap.size = w1.heap.size + 1 := World.size_alloc _ _
    have B2 := B1.alloc B1.size (.cells #[.int .i64 o, .int .i64 l, .int .i64 m] 28)
    have Sb2 := Blk.new w1 28 #[.int .i64 o, .int .i64 l, .int .i64 m]
    clear B1
    cases hk : Sx.setOK o l m
    · have HV := hide (start_no hk)
      have CI := fun wx => impl_Start o l m wx
      have CS := fun wx => spec_Start o l m wx
      rw [hk, HV.out] at CI CS
      have CI := hide CI
      have CS := hide CS
      have CV := hide (fun wx => by have := impl_SettingValid o l m wx; rwa [hk] at this)
      clear hk HV hf
      have Sbc0 : (w1.alloc (.cells #[.int .i64 o, .int .i64 l, .int .i64 m] 28)).cell? ⟨w1.heap.size, 0, none⟩ = some (.int .i64 o) := Sb2.cell 0
      have Sbc1 : (w1.alloc (.cells #[.int .i64 o, .int .i64 l, .int .i64 m] 28)).cell? ⟨w1.heap.size, 1, none⟩ = some (.int .i64 l) := Sb2.cell 1
      have Sbc2 : (w1.alloc (.cells #[.int .i64 o, .int .i64 l, .int .i64 m] 28)).cell? ⟨w1.heap.size, 2, none⟩ = some (.int .i64 m) := Sb2.cell 2
      go_wp2_with fail
      refine ((unhide CI) _).mono ?_; rintro e w2 ⟨rfl, hb⟩
      have s3 : (w1.alloc (.cells #[.int .i64 o, .int .i64 l, .int .i64 m] 28)).heap.size ≤ w2.heap.size := Below.size hb
      have B3 := below_next (Nat.le_refl _) B2 hb
      have Sb3 := Sb2.below hb Sb2.lt
      clear B2 Sb2 Sbc0 Sbc1 Sbc2 hb
      have s4 : (w2.alloc (.cells #[.int .i64 0, .int .i64 0, .int .i64 0, .slice none 0 0, .int .i64 0, .int .i64 0] 31)).heap.size = w2.heap.size + 1 := World.size_alloc _ _
      have B4 := B3.alloc B3.size (.cells #[.int .i64 0, .int .i64 0, .int .i64 0, .slice none 0 0, .int .i64 0, .int .i64 0] 31)
      have Sb4 := Sb3.alloc (.cells #[.int .i64 0, .int .i64 0, .int .i64 0, .slice none 0 0, .int .i64 0, .int .i64 0] 31)
      have Kb4 := Blk.new w2 31 #[.int .i64 0, .int .i64 0, .int .i64 0, .slice none 0 0, .int .i64 0, .int .i64 0]
      clear B3 Sb3
      have Sbc0 : (w2.alloc (.cells #[.int .i64 0, .int .i64 0, .int .i64 0, .slice none 0 0, .int .i64 0, .int .i64 0] 31)).cell? ⟨w1.heap.size, 0, none⟩ = some (.int .i64 o) := Sb4.cell 0
      have Sbc1 : (w2.alloc (.cells #[.int .i64 0, .int .i64 0, .int .i64 0, .slice none 0 0, .int .i64 0, .int .i64 0] 31)).cell? ⟨w1.heap.size, 1, none⟩ = some (.int .i64 l) := Sb4.cell 1
      have Sbc2 : (w2.alloc (.cells #[.int .i64 0, .int .i64 0, .int .i64 0, .slice none 0 0, .int .i64 0, .int .i64 0] 31)).cell? ⟨w1.heap.size, 2, none⟩ = some (.int .i64 m) := Sb4.cell 2
      go_wp2_with fail
      refine ((unhide CS) _).mono ?_; rintro e w3 ⟨rfl, hb⟩
      have s5 : (w2.alloc (.cells #[.int .i64 0, .int .i64 0, .int .i64 0, .slice none 0 0, .int .i64 0, .int .i64 0] 31)).heap.size ≤ w3.heap.size := Below.size hb
      have B5 := below_next (Nat.le_refl _) B4 hb
      have Sb5 := Sb4.below hb Sb4.lt
      have Kb5 := Kb4.below hb Kb4.lt
      clear B4 Sb4 Kb4 Sbc0 Sbc1 Sbc2 hb
      have s6 : (w3.alloc (.cells #[.int .i64 0, .int .i64 0, .int .i64 0, .slice none 0 0, .int .i64 0, .int .i64 0] 31)).heap.size = w3.heap.size + 1 := World.size_alloc _ _
      have B6 := B5.alloc B5.size (.cells #[.int .i64 0, .int .i64 0, .int .i64 0, .slice none 0 0, .int .i64 0, .int .i64 0] 31)
      have Sb6 := Sb5.alloc (.cells #[.int .i64 0, .int .i64 0, .int .i64 0, .slice none 0 0, .int .i64 0, .int .i64 0] 31)
      have Kb6 := Kb5.alloc (.cells #[.int .i64 0, .int .i64 0, .int .i64 0, .slice none 0 0, .int .i64 0, .int .i64 0] 31)
      have Wb6 := Blk.new w3 31 #[.int .i64 0, .int .i64 0, .int .i64 0, .slice none 0 0, .int .i64 0, .int .i64 0]
      clear B5 Sb5 Kb5
      have Kbc0 : (w3.alloc (.cells #[.int .i64 0, .int .i64 0, .int .i64 0, .slice none 0 0, .int .i64 0, .int .i64 0] 31)).cell? ⟨w2.heap.size, 0, none⟩ = some (.int .i64 0) := Kb6.cell 0
      have Kbc1 : (w3.alloc (.cells #[.int .i64 0, .int .i64 0, .int .i64 0, .slice none 0 0, .int .i64 0, .int .i64 0] 31)).cell? ⟨w2.heap.size, 1, none⟩ = some (.int .i64 0) := Kb6.cell 1
      have Kbc2 : (w3.alloc (.cells #[.int .i64 0, .int .i64 0, .int .i64 0, .slice none 0 0, .int .i64 0, .int .i64 0] 31)).cell? ⟨w2.heap.size, 2, none⟩ = some (.int .i64 0) := Kb6.cell 2
      have Kbc3 : (w3.alloc (.cells #[.int .i64 0, .int .i64 0, .int .i64 0, .slice none 0 0, .int .i64 0, .int .i64 0] 31)).cell? ⟨w2.heap.size, 3, none⟩ = some (.slice none 0 0) := Kb6.cell 3
      have Kbc4 : (w3.alloc (.cells #[.int .i64 0, .int .i64 0, .int .i64 0, .slice none 0 0, .int .i64 0, .int .i64 0] 31)).cell? ⟨w2.heap.size, 4, none⟩ = some (.int .i64 0) := Kb6.cell 4
      have Kbc5 : (w3.alloc (.cells #[.int .i64 0, .int .i64 0, .int .i64 0, .slice none 0 0, .int .i64 0, .int .i64 0] 31)).cell? ⟨w2.heap.size, 5, none⟩ = some (.int .i64 0) := Kb6.cell 5
      have Wbc0 : (w3.alloc (.cells #[.int .i64 0, .int .i64 0, .int .i64 0, .slice none 0 0, .int .i64 0, .int .i64 0] 31)).cell? ⟨w3.heap.size, 0, none⟩ = some (.int .i64 0) := Wb6.cell 0
      have Wbc1 : (w3.alloc (.cells #[.int .i64 0, .int .i64 0, .int .i64 0, .slice none 0 0, .int .i64 0, .int .i64 0] 31)).cell? ⟨w3.heap.size, 1, none⟩ = some (.int .i64 0) := Wb6.cell 1
      have Wbc2 : (w3.alloc (.cells #[.int .i64 0, .int .i64 0, .int .i64 0, .slice none 0 0, .int .i64 0, .int .i64 0] 31)).cell? ⟨w3.heap.size, 2, none⟩ = some (.int .i64 0) := Wb6.cell 2
      have Wbc3 : (w3.alloc (.cells #[.int .i64 0, .int .i64 0, .int .i64 0, .slice none 0 0, .int .i64 0, .int .i64 0] 31)).cell? ⟨w3.heap.size, 3, none⟩ = some (.slice none 0 0) := Wb6.cell 3
      have Wbc4 : (w3.alloc (.cells #[.int .i64 0, .int .i64 0, .int .i64 0, .slice none 0 0, .int .i64 0, .int .i64 0] 31)).cell? ⟨w3.heap.size, 4, none⟩ = some (.int .i64 0) := Wb6.cell 4
      have Wbc5 : (w3.alloc (.cells #[.int .i64 0, .int .i64 0, .int .i64 0, .slice none 0 0, .int .i64 0, .int .i64 0] 31)).cell? ⟨w3.heap.size, 5, none⟩ = some (.int .i64 0) := Wb6.cell 5
      go_wp2_with fail
      refine (so0 0 0 0 0 0 _).mono ?_; rintro e w4 ⟨rfl, hb⟩
      have s7 : (w3.alloc (.cells #[.int .i64 0, .int .i64 0, .int .i64 0, .slice none 0 0, .int .i64 0, .int .i64 0] 31)).heap.size ≤ w4.heap.size := Below.size hb
      have B7 := below_next (Nat.le_refl _) B6 hb
      have Sb7 := Sb6.below hb Sb6.lt
      have Kb7 := Kb6.below hb Kb6.lt
      have Wb7 := Wb6.below hb Wb6.lt
      clear B6 Sb6 Kb6 Wb6 Kbc0 Kbc1 Kbc2 Kbc3 Kbc4 Kbc5 Wbc0 Wbc1 Wbc2 Wbc3 Wbc4 Wbc5 hb
      have Sbc0 : w4.cell? ⟨w1.heap.size, 0, none⟩ = some (.int .i64 o) := Sb7.cell 0
      have Sbc1 : w4.cell? ⟨w1.heap.size, 1, none⟩ = some (.int .i64 l) := Sb7.cell 1
      have Sbc2 : w4.cell? ⟨w1.heap.size, 2, none⟩ = some (.int .i64 m) := Sb7.cell 2
      go_wp2_with fail
      refine ((unhide CV) _).mono ?_; rintro e w5 ⟨rfl, hb⟩
      have s8 : w4.heap.size ≤ w5.heap.size := Below.size hb
      have B8 := below_next (Nat.le_refl _) B7 hb
      have Sb8 := Sb7.below hb Sb7.lt
      have Kb8 := Kb7.below hb Kb7.lt
      have Wb8 := Wb7.below hb Wb7.lt
      clear B7 Sb7 Kb7 Wb7 Sbc0 Sbc1 Sbc2 hb
      have Kbc0 : w5.cell? ⟨w2.heap.size, 0, none⟩ = some (.int .i64 0) := Kb8.cell 0
      have Kbc1 : w5.cell? ⟨w2.heap.size, 1, none⟩ = some (.int .i64 0) := Kb8.cell 1
      have Kbc2 : w5.cell? ⟨w2.heap.size, 2, none⟩ = some (.int .i64 0) := Kb8.cell 2
      have Kbc3 : w5.cell? ⟨w2.heap.size, 3, none⟩ = some (.slice none 0 0) := Kb8.cell 3
      have Kbc4 : w5.cell? ⟨w2.heap.size, 4, none⟩ = some (.int .i64 0) := Kb8.cell 4
      have Kbc5 : w5.cell? ⟨w2.heap.size, 5, none⟩ = some (.int .i64 0) := Kb8.cell 5
      have Wbc0 : w5.cell? ⟨w3.heap.size, 0, none⟩ = some (.int .i64 0) := Wb8.cell 0
      have Wbc1 : w5.cell? ⟨w3.heap.size, 1, none⟩ = some (.int .i64 0) := Wb8.cell 1
      have Wbc2 : w5.cell? ⟨w3.heap.size, 2, none⟩ = some (.int .i64 0) := Wb8.cell 2
      have Wbc3 : w5.cell? ⟨w3.heap.size, 3, none⟩ = some (.slice none 0 0) := Wb8.cell 3
      have Wbc4 : w5.cell? ⟨w3.heap.size, 4, none⟩ = some (.int .i64 0) := Wb8.cell 4
      have Wbc5 : w5.cell? ⟨w3.heap.size, 5, none⟩ = some (.int .i64 0) := Wb8.cell 5
      go_wp2_with fail
      refine (so0 0 0 0 0 0 _).mono ?_; rintro e w6 ⟨rfl, hb⟩
      have s9 : w5.heap.size ≤ w6.heap.size := Below.size hb
      have B9 := below_next (Nat.le_refl _) B8 hb
      have Sb9 := Sb8.below hb Sb8.lt
      have Kb9 := Kb8.below hb Kb8.lt
      have Wb9 := Wb8.below hb Wb8.lt
      clear B8 Sb8 Kb8 Wb8 Kbc0 Kbc1 Kbc2 Kbc3 Kbc4 Kbc5 Wbc0 Wbc1 Wbc2 Wbc3 Wbc4 Wbc5 hb
      have Sbc0 : w6.cell? ⟨w1.heap.size, 0, none⟩ = some (.int .i64 o) := Sb9.cell 0
      have Sbc1 : w6.cell? ⟨w1.heap.size, 1, none⟩ = some (.int .i64 l) := Sb9.cell 1
      have Sbc2 : w6.cell? ⟨w1.heap.size, 2, none⟩ = some (.int .i64 m) := Sb9.cell 2
      go_wp2_with fail
      refine ((unhide CV) _).mono ?_; rintro e w7 ⟨rfl, hb⟩
      have s10 : w6.heap.size ≤ w7.heap.size := Below.size hb
      have B10 := below_next (Nat.le_refl _) B9 hb
      have Sb10 := Sb9.below hb Sb9.lt
      have Kb10 := Kb9.below hb Kb9.lt
      have Wb10 := Wb9.below hb Wb9.lt
      clear B9 Sb9 Kb9 Wb9 Sbc0 Sbc1 Sbc2 hb
      go_wp2_with fail
      go_ret
      exact ⟨rfl, B10⟩
    · have HV := hide (start_yes hk)
      have CI := fun wx => impl_Start o l m wx
      have CS := fun wx => spec_Start o l m wx
      rw [hk, HV.out] at CI CS
      have CI := hide CI
      have CS := hide CS
      have CV := hide (fun wx => by have := impl_SettingValid o l m wx; rwa [hk] at this)
      obtain ⟨k1, k2, k3, k4⟩ := Sx.start_ok hk
      have hbd := Sx.setOK_bd hk
      have t1 := Sx.two_pos l
      have t2 := Sx.two_byte hbd.2.1
      have CK := hide (fun wx => by have := impl_KnownValid o l m none 0 0 (-1) [] wx (pr0 _ _ _) (by simp); rwa [k1] at this)
      have CN := hide (fun wx => by have := impl_NextWord o l m none 0 0 (-1) [] wx (pr0 _ _ _) (by simp); rwa [show Sx.nextS o l m [] 0 (-1) = Sx.two l + 1 + 1 from by unfold Sx.nextS; rw [if_pos k1]; simp; omega] at this)
      have CR := hide (fun wx => by have := impl_Grows o l m none 0 0 (-1) [] wx (pr0 _ _ _) (by simp); rwa [k1, show Sx.growsB l m ([] : List (Int × Int)).length (-1) = false from k2] at this)
      have CW := hide (fun wx => by have := impl_Width o l m none 0 0 (-1) [] wx (pr0 _ _ _) (by simp); rwa [show Sx.widthS o l m [] 0 (-1) = l + 1 from by unfold Sx.widthS; rw [if_pos k1]; exact k4] at this)
      have CG := hide (fun wx => by have := impl_Greatest o l m none 0 0 (-1) [] wx (pr0 _ _ _) (by simp); rwa [show Sx.greatS o l m [] 0 (-1) = Sx.two l + 1 from by unfold Sx.greatS; rw [if_pos k1]; exact k3] at this)
      have CE := hide (fun wx => by have := impl_EndCode o l m wx; rwa [Sx.end_yes hk] at this)
      have e1 : IntKind.i64.wrap (Sx.two l + 1 + 1) = Sx.two l + 1 + 1 := IntWalk.i64_in _ (by omega)
      have e2 : IntKind.i64.wrap (l + 1) = l + 1 := IntWalk.i64_in _ (by omega)
      clear k1 k2 k3 k4 hbd
      clear hk HV hf
      have Sbc0 : (w1.alloc (.cells #[.int .i64 o, .int .i64 l, .int .i64 m] 28)).cell? ⟨w1.heap.size, 0, none⟩ = some (.int .i64 o) := Sb2.cell 0
      have Sbc1 : (w1.alloc (.cells #[.int .i64 o, .int .i64 l, .int .i64 m] 28)).cell? ⟨w1.heap.size, 1, none⟩ = some (.int .i64 l) := Sb2.cell 1
      have Sbc2 : (w1.alloc (.cells #[.int .i64 o, .int .i64 l, .int .i64 m] 28)).cell? ⟨w1.heap.size, 2, none⟩ = some (.int .i64 m) := Sb2.cell 2
      go_wp2_with fail
      refine ((unhide CI) _).mono ?_; rintro e w2 ⟨rfl, hb⟩
      have s3 : (w1.alloc (.cells #[.int .i64 o, .int .i64 l, .int .i64 m] 28)).heap.size ≤ w2.heap.size := Below.size hb
      have B3 := below_next (Nat.le_refl _) B2 hb
      have Sb3 := Sb2.below hb Sb2.lt
      clear B2 Sb2 Sbc0 Sbc1 Sbc2 hb
      have s4 : (w2.alloc (.cells #[.int .i64 o, .int .i64 l, .int .i64 m, .slice none 0 0, .int .i64 0, .int .i64 (-1)] 31)).heap.size = w2.heap.size + 1 := World.size_alloc _ _
      have B4 := B3.alloc B3.size (.cells #[.int .i64 o, .int .i64 l, .int .i64 m, .slice none 0 0, .int .i64 0, .int .i64 (-1)] 31)
      have Sb4 := Sb3.alloc (.cells #[.int .i64 o, .int .i64 l, .int .i64 m, .slice none 0 0, .int .i64 0, .int .i64 (-1)] 31)
      have Kb4 := Blk.new w2 31 #[.int .i64 o, .int .i64 l, .int .i64 m, .slice none 0 0, .int .i64 0, .int .i64 (-1)]
      clear B3 Sb3
      have Sbc0 : (w2.alloc (.cells #[.int .i64 o, .int .i64 l, .int .i64 m, .slice none 0 0, .int .i64 0, .int .i64 (-1)] 31)).cell? ⟨w1.heap.size, 0, none⟩ = some (.int .i64 o) := Sb4.cell 0
      have Sbc1 : (w2.alloc (.cells #[.int .i64 o, .int .i64 l, .int .i64 m, .slice none 0 0, .int .i64 0, .int .i64 (-1)] 31)).cell? ⟨w1.heap.size, 1, none⟩ = some (.int .i64 l) := Sb4.cell 1
      have Sbc2 : (w2.alloc (.cells #[.int .i64 o, .int .i64 l, .int .i64 m, .slice none 0 0, .int .i64 0, .int .i64 (-1)] 31)).cell? ⟨w1.heap.size, 2, none⟩ = some (.int .i64 m) := Sb4.cell 2
      go_wp2_with fail
      refine ((unhide CS) _).mono ?_; rintro e w3 ⟨rfl, hb⟩
      have s5 : (w2.alloc (.cells #[.int .i64 o, .int .i64 l, .int .i64 m, .slice none 0 0, .int .i64 0, .int .i64 (-1)] 31)).heap.size ≤ w3.heap.size := Below.size hb
      have B5 := below_next (Nat.le_refl _) B4 hb
      have Sb5 := Sb4.below hb Sb4.lt
      have Kb5 := Kb4.below hb Kb4.lt
      clear B4 Sb4 Kb4 Sbc0 Sbc1 Sbc2 hb
      have s6 : (w3.alloc (.cells #[.int .i64 o, .int .i64 l, .int .i64 m, .slice none 0 0, .int .i64 0, .int .i64 (-1)] 31)).heap.size = w3.heap.size + 1 := World.size_alloc _ _
      have B6 := B5.alloc B5.size (.cells #[.int .i64 o, .int .i64 l, .int .i64 m, .slice none 0 0, .int .i64 0, .int .i64 (-1)] 31)
      have Sb6 := Sb5.alloc (.cells #[.int .i64 o, .int .i64 l, .int .i64 m, .slice none 0 0, .int .i64 0, .int .i64 (-1)] 31)
      have Kb6 := Kb5.alloc (.cells #[.int .i64 o, .int .i64 l, .int .i64 m, .slice none 0 0, .int .i64 0, .int .i64 (-1)] 31)
      have Wb6 := Blk.new w3 31 #[.int .i64 o, .int .i64 l, .int .i64 m, .slice none 0 0, .int .i64 0, .int .i64 (-1)]
      clear B5 Sb5 Kb5
      have Kbc0 : (w3.alloc (.cells #[.int .i64 o, .int .i64 l, .int .i64 m, .slice none 0 0, .int .i64 0, .int .i64 (-1)] 31)).cell? ⟨w2.heap.size, 0, none⟩ = some (.int .i64 o) := Kb6.cell 0
      have Kbc1 : (w3.alloc (.cells #[.int .i64 o, .int .i64 l, .int .i64 m, .slice none 0 0, .int .i64 0, .int .i64 (-1)] 31)).cell? ⟨w2.heap.size, 1, none⟩ = some (.int .i64 l) := Kb6.cell 1
      have Kbc2 : (w3.alloc (.cells #[.int .i64 o, .int .i64 l, .int .i64 m, .slice none 0 0, .int .i64 0, .int .i64 (-1)] 31)).cell? ⟨w2.heap.size, 2, none⟩ = some (.int .i64 m) := Kb6.cell 2
      have Kbc3 : (w3.alloc (.cells #[.int .i64 o, .int .i64 l, .int .i64 m, .slice none 0 0, .int .i64 0, .int .i64 (-1)] 31)).cell? ⟨w2.heap.size, 3, none⟩ = some (.slice none 0 0) := Kb6.cell 3
      have Kbc4 : (w3.alloc (.cells #[.int .i64 o, .int .i64 l, .int .i64 m, .slice none 0 0, .int .i64 0, .int .i64 (-1)] 31)).cell? ⟨w2.heap.size, 4, none⟩ = some (.int .i64 0) := Kb6.cell 4
      have Kbc5 : (w3.alloc (.cells #[.int .i64 o, .int .i64 l, .int .i64 m, .slice none 0 0, .int .i64 0, .int .i64 (-1)] 31)).cell? ⟨w2.heap.size, 5, none⟩ = some (.int .i64 (-1)) := Kb6.cell 5
      have Wbc0 : (w3.alloc (.cells #[.int .i64 o, .int .i64 l, .int .i64 m, .slice none 0 0, .int .i64 0, .int .i64 (-1)] 31)).cell? ⟨w3.heap.size, 0, none⟩ = some (.int .i64 o) := Wb6.cell 0
      have Wbc1 : (w3.alloc (.cells #[.int .i64 o, .int .i64 l, .int .i64 m, .slice none 0 0, .int .i64 0, .int .i64 (-1)] 31)).cell? ⟨w3.heap.size, 1, none⟩ = some (.int .i64 l) := Wb6.cell 1
      have Wbc2 : (w3.alloc (.cells #[.int .i64 o, .int .i64 l, .int .i64 m, .slice none 0 0, .int .i64 0, .int .i64 (-1)] 31)).cell? ⟨w3.heap.size, 2, none⟩ = some (.int .i64 m) := Wb6.cell 2
      have Wbc3 : (w3.alloc (.cells #[.int .i64 o, .int .i64 l, .int .i64 m, .slice none 0 0, .int .i64 0, .int .i64 (-1)] 31)).cell? ⟨w3.heap.size, 3, none⟩ = some (.slice none 0 0) := Wb6.cell 3
      have Wbc4 : (w3.alloc (.cells #[.int .i64 o, .int .i64 l, .int .i64 m, .slice none 0 0, .int .i64 0, .int .i64 (-1)] 31)).cell? ⟨w3.heap.size, 4, none⟩ = some (.int .i64 0) := Wb6.cell 4
      have Wbc5 : (w3.alloc (.cells #[.int .i64 o, .int .i64 l, .int .i64 m, .slice none 0 0, .int .i64 0, .int .i64 (-1)] 31)).cell? ⟨w3.heap.size, 5, none⟩ = some (.int .i64 (-1)) := Wb6.cell 5
      go_wp2_with fail
      refine (so0 o l m 0 (-1) _).mono ?_; rintro e w4 ⟨rfl, hb⟩
      have s7 : (w3.alloc (.cells #[.int .i64 o, .int .i64 l, .int .i64 m, .slice none 0 0, .int .i64 0, .int .i64 (-1)] 31)).heap.size ≤ w4.heap.size := Below.size hb
      have B7 := below_next (Nat.le_refl _) B6 hb
      have Sb7 := Sb6.below hb Sb6.lt
      have Kb7 := Kb6.below hb Kb6.lt
      have Wb7 := Wb6.below hb Wb6.lt
      clear B6 Sb6 Kb6 Wb6 Kbc0 Kbc1 Kbc2 Kbc3 Kbc4 Kbc5 Wbc0 Wbc1 Wbc2 Wbc3 Wbc4 Wbc5 hb
      have Sbc0 : w4.cell? ⟨w1.heap.size, 0, none⟩ = some (.int .i64 o) := Sb7.cell 0
      have Sbc1 : w4.cell? ⟨w1.heap.size, 1, none⟩ = some (.int .i64 l) := Sb7.cell 1
      have Sbc2 : w4.cell? ⟨w1.heap.size, 2, none⟩ = some (.int .i64 m) := Sb7.cell 2
      go_wp2_with fail
      refine ((unhide CV) _).mono ?_; rintro e w5 ⟨rfl, hb⟩
      have s8 : w4.heap.size ≤ w5.heap.size := Below.size hb
      have B8 := below_next (Nat.le_refl _) B7 hb
      have Sb8 := Sb7.below hb Sb7.lt
      have Kb8 := Kb7.below hb Kb7.lt
      have Wb8 := Wb7.below hb Wb7.lt
      clear B7 Sb7 Kb7 Wb7 Sbc0 Sbc1 Sbc2 hb
      have Sbc0 : w5.cell? ⟨w1.heap.size, 0, none⟩ = some (.int .i64 o) := Sb8.cell 0
      have Sbc1 : w5.cell? ⟨w1.heap.size, 1, none⟩ = some (.int .i64 l) := Sb8.cell 1
      have Sbc2 : w5.cell? ⟨w1.heap.size, 2, none⟩ = some (.int .i64 m) := Sb8.cell 2
      have Kbc0 : w5.cell? ⟨w2.heap.size, 0, none⟩ = some (.int .i64 o) := Kb8.cell 0
      have Kbc1 : w5.cell? ⟨w2.heap.size, 1, none⟩ = some (.int .i64 l) := Kb8.cell 1
      have Kbc2 : w5.cell? ⟨w2.heap.size, 2, none⟩ = some (.int .i64 m) := Kb8.cell 2
      have Kbc3 : w5.cell? ⟨w2.heap.size, 3, none⟩ = some (.slice none 0 0) := Kb8.cell 3
      have Kbc4 : w5.cell? ⟨w2.heap.size, 4, none⟩ = some (.int .i64 0) := Kb8.cell 4
      have Kbc5 : w5.cell? ⟨w2.heap.size, 5, none⟩ = some (.int .i64 (-1)) := Kb8.cell 5
      clear Sbc0 Sbc1 Sbc2 Kbc0 Kbc1 Kbc2 Kbc3 Kbc4 Kbc5
      have Sbc0 : w5.cell? ⟨w1.heap.size, 0, none⟩ = some (.int .i64 o) := Sb8.cell 0
      have Sbc1 : w5.cell? ⟨w1.heap.size, 1, none⟩ = some (.int .i64 l) := Sb8.cell 1
      have Sbc2 : w5.cell? ⟨w1.heap.size, 2, none⟩ = some (.int .i64 m) := Sb8.cell 2
      have Kbc0 : w5.cell? ⟨w2.heap.size, 0, none⟩ = some (.int .i64 o) := Kb8.cell 0
      have Kbc1 : w5.cell? ⟨w2.heap.size, 1, none⟩ = some (.int .i64 l) := Kb8.cell 1
      have Kbc2 : w5.cell? ⟨w2.heap.size, 2, none⟩ = some (.int .i64 m) := Kb8.cell 2
      have Kbc3 : w5.cell? ⟨w2.heap.size, 3, none⟩ = some (.slice none 0 0) := Kb8.cell 3
      have Kbc4 : w5.cell? ⟨w2.heap.size, 4, none⟩ = some (.int .i64 0) := Kb8.cell 4
      have Kbc5 : w5.cell? ⟨w2.heap.size, 5, none⟩ = some (.int .i64 (-1)) := Kb8.cell 5
      go_wp2_with fail
      have s0 : Below w5.heap.size w5 w5.drew ∧ w5.drew.cell? ⟨w1.heap.size, 0, none⟩ = some (.int .i64 o) ∧ w5.drew.cell? ⟨w1.heap.size, 1, none⟩ = some (.int .i64 l) ∧ w5.drew.cell? ⟨w1.heap.size, 2, none⟩ = some (.int .i64 m) ∧ w5.drew.cell? ⟨w2.heap.size, 0, none⟩ = some (.int .i64 o) ∧ w5.drew.cell? ⟨w2.heap.size, 1, none⟩ = some (.int .i64 l) ∧ w5.drew.cell? ⟨w2.heap.size, 2, none⟩ = some (.int .i64 m) ∧ w5.drew.cell? ⟨w2.heap.size, 3, none⟩ = some (.slice none 0 0) ∧ w5.drew.cell? ⟨w2.heap.size, 4, none⟩ = some (.int .i64 0) ∧ w5.drew.cell? ⟨w2.heap.size, 5, none⟩ = some (.int .i64 (-1)) := ⟨(Below.refl _ _).drew, Sb8.cell 0, Sb8.cell 1, Sb8.cell 2, Kb8.cell 0, Kb8.cell 1, Kb8.cell 2, Kb8.cell 3, Kb8.cell 4, Kb8.cell 5⟩
      clear Sbc0 Sbc1 Sbc2 Kbc0 Kbc1 Kbc2 Kbc3 Kbc4 Kbc5
      refine wp_region_held_drew (S := (fun W => Below w5.heap.size w5 W ∧ W.cell? ⟨w1.heap.size, 0, none⟩ = some (.int .i64 o) ∧ W.cell? ⟨w1.heap.size, 1, none⟩ = some (.int .i64 l) ∧ W.cell? ⟨w1.heap.size, 2, none⟩ = some (.int .i64 m) ∧ W.cell? ⟨w2.heap.size, 0, none⟩ = some (.int .i64 o) ∧ W.cell? ⟨w2.heap.size, 1, none⟩ = some (.int .i64 l) ∧ W.cell? ⟨w2.heap.size, 2, none⟩ = some (.int .i64 m) ∧ W.cell? ⟨w2.heap.size, 3, none⟩ = some (.slice none 0 0) ∧ W.cell? ⟨w2.heap.size, 4, none⟩ = some (.int .i64 0) ∧ W.cell? ⟨w2.heap.size, 5, none⟩ = some (.int .i64 (-1)))) (by kernel_rfl) (by first | assumption | exact s0 | exact keep9 (by assumption) (by assumption)) (fun hHeld => ?_)
      refine wpAnyH_take (i := 0) (oi := { dst := some 56, op := Op.load 31 (Operand.tmp 4), type := 31, pos := "laws.go:326", after := #[], guard := none }) (v := ?_) rfl (by kernel_rfl) (by kernel_rfl) (by kernel_rfl) (fun _ _ _ h => h) (Or.inl ⟨by rfl, ?_⟩) (by assumption) ?_; rotate_left
      · intro W hW; (try dsimp only at hW); go_simp;  try (with_reducible rfl)
      try simp only [Act.put, List.setIfInBounds_toArray, List.set_cons_zero, List.set_cons_succ]
      refine wpAnyH_ready (rs := [1]) (by kernel_rfl) (by simp) (AllReadyH.cons (i := 1) (o := { dst := some 57, op := Op.call { callee := Callee.value (Operand.func 40), args := #[Operand.tmp 56], argTypes := #[31] }, type := 4, pos := "laws.go:326", after := #[{ on := 0, ground := Ground.data }], guard := none }) rfl (fun K hK => ?_) AllReadyH.nil)
      go_simp
      refine ((unhide CK) _).mono ?_; rintro e y1 ⟨rfl, hb⟩
      try go_wp2_with fail
      refine hK.out _ _ (by (try dsimp only); first | assumption | exact s0 | exact keep9 (by assumption) (by assumption)) (fun hHeld => ?_)
      clear hK K
      try simp only [Act.put, List.setIfInBounds_toArray, List.set_cons_zero, List.set_cons_succ]
      refine wpAnyH_take (i := 2) (oi := { dst := some 58, op := Op.move (Operand.tmp 57), type := 4, pos := "laws.go:326", after := #[{ on := 1, ground := Ground.data }, { on := 1, ground := Ground.chain }], guard := none }) (v := ?_) rfl (by kernel_rfl) (by kernel_rfl) (by kernel_rfl) (fun _ _ _ h => h) (Or.inl ⟨by rfl, ?_⟩) (by assumption) ?_; rotate_left
      · intro W hW; (try dsimp only at hW); go_simp;  try (with_reducible rfl)
      try simp only [Act.put, List.setIfInBounds_toArray, List.set_cons_zero, List.set_cons_succ]
      refine wpAnyH_take (i := 3) (oi := { dst := some 59, op := Op.load 31 (Operand.tmp 4), type := 31, pos := "laws.go:326", after := #[{ on := 2, ground := Ground.guard }], guard := some (2, true) }) (v := ?_) rfl (by kernel_rfl) (by kernel_rfl) (by kernel_rfl) (fun _ _ _ h => h) (Or.inl ⟨by rfl, ?_⟩) (by assumption) ?_; rotate_left
      · intro W hW; (try dsimp only at hW); go_simp;  try (with_reducible rfl)
      try simp only [Act.put, List.setIfInBounds_toArray, List.set_cons_zero, List.set_cons_succ]
      refine wpAnyH_take (i := 5) (oi := { dst := some 61, op := Op.load 28 (Operand.tmp 3), type := 28, pos := "laws.go:326", after := #[{ on := 2, ground := Ground.guard }], guard := some (2, true) }) (v := ?_) rfl (by kernel_rfl) (by kernel_rfl) (by kernel_rfl) (fun _ _ _ h => h) (Or.inl ⟨by rfl, ?_⟩) (by assumption) ?_; rotate_left
      · intro W hW; (try dsimp only at hW); go_simp;  try (with_reducible rfl)
      try simp only [Act.put, List.setIfInBounds_toArray, List.set_cons_zero, List.set_cons_succ]
      refine wpAnyH_ready (rs := [4]) (by kernel_rfl) (by simp) (AllReadyH.cons (i := 4) (o := { dst := some 60, op := Op.call { callee := Callee.value (Operand.func 41), args := #[Operand.tmp 59], argTypes := #[31] }, type := 3, pos := "laws.go:326", after := #[{ on := 3, ground := Ground.data }, { on := 2, ground := Ground.chain }, { on := 2, ground := Ground.guard }], guard := some (2, true) }) rfl (fun K hK => ?_) AllReadyH.nil)
      go_simp
      refine ((unhide CN) _).mono ?_; rintro e y2 ⟨rfl, hb⟩
      try go_wp2_with fail
      refine hK.out _ _ (by (try dsimp only); first | assumption | exact s0 | exact keep9 (by assumption) (by assumption)) (fun hHeld => ?_)
      clear hK K
      try simp only [Act.put, List.setIfInBounds_toArray, List.set_cons_zero, List.set_cons_succ]
      refine wpAnyH_ready (rs := [6]) (by kernel_rfl) (by simp) (AllReadyH.cons (i := 6) (o := { dst := some 62, op := Op.call { callee := Callee.value (Operand.func 34), args := #[Operand.tmp 61], argTypes := #[28] }, type := 3, pos := "laws.go:326", after := #[{ on := 5, ground := Ground.data }, { on := 4, ground := Ground.chain }, { on := 2, ground := Ground.guard }], guard := some (2, true) }) rfl (fun K hK => ?_) AllReadyH.nil)
      go_simp
      refine ((unhide CE) _).mono ?_; rintro e y3 ⟨rfl, hb⟩
      try go_wp2_with fail
      refine hK.out _ _ (by (try dsimp only); first | assumption | exact s0 | exact keep9 (by assumption) (by assumption)) (fun hHeld => ?_)
      clear hK K
      try simp only [Act.put, List.setIfInBounds_toArray, List.set_cons_zero, List.set_cons_succ]
      refine wpAnyH_take (i := 7) (oi := { dst := some 63, op := Op.binOp BinOp.add 3 (Operand.tmp 62) (Operand.const (Value.int IntKind.i64 1)) 3, type := 3, pos := "laws.go:326", after := #[{ on := 6, ground := Ground.data }, { on := 2, ground := Ground.guard }], guard := some (2, true) }) (v := ?_) rfl (by kernel_rfl) (by kernel_rfl) (by kernel_rfl) (fun _ _ _ h => h) (Or.inl ⟨by rfl, ?_⟩) (by assumption) ?_; rotate_left
      · intro W hW; (try dsimp only at hW); go_simp;  try (with_reducible rfl)
      try simp only [Act.put, List.setIfInBounds_toArray, List.set_cons_zero, List.set_cons_succ]
      refine wpAnyH_take (i := 8) (oi := { dst := some 64, op := Op.binOp BinOp.eql 3 (Operand.tmp 60) (Operand.tmp 63) 3, type := 4, pos := "laws.go:326", after := #[{ on := 4, ground := Ground.data }, { on := 7, ground := Ground.data }, { on := 2, ground := Ground.guard }], guard := some (2, true) }) (v := ?_) rfl (by kernel_rfl) (by kernel_rfl) (by kernel_rfl) (fun _ _ _ h => h) (Or.inl ⟨by rfl, ?_⟩) (by assumption) ?_; rotate_left
      · intro W hW; (try dsimp only at hW); go_simp;  try (with_reducible rfl)
      try simp only [Act.put, List.setIfInBounds_toArray, List.set_cons_zero, List.set_cons_succ]
      refine wpAnyH_take (i := 9) (oi := { dst := some 65, op := Op.pick (Operand.tmp 58) (Operand.tmp 64) (Operand.const (Value.bool false)), type := 4, pos := "laws.go:326", after := #[{ on := 2, ground := Ground.data }, { on := 8, ground := Ground.data }], guard := none }) (v := ?_) rfl (by kernel_rfl) (by kernel_rfl) (by kernel_rfl) (fun _ _ _ h => h) (Or.inl ⟨by rfl, ?_⟩) (by assumption) ?_; rotate_left
      · intro W hW; (try dsimp only at hW); go_simp;  try (with_reducible rfl)
      try simp only [Act.put, List.setIfInBounds_toArray, List.set_cons_zero, List.set_cons_succ]
      refine wpAnyH_take (i := 10) (oi := { dst := some 66, op := Op.move (Operand.tmp 65), type := 4, pos := "laws.go:326", after := #[{ on := 9, ground := Ground.data }, { on := 6, ground := Ground.chain }], guard := none }) (v := ?_) rfl (by kernel_rfl) (by kernel_rfl) (by kernel_rfl) (fun _ _ _ h => h) (Or.inl ⟨by rfl, ?_⟩) (by assumption) ?_; rotate_left
      · intro W hW; (try dsimp only at hW); go_simp;  try (with_reducible rfl)
      try simp only [Act.put, List.setIfInBounds_toArray, List.set_cons_zero, List.set_cons_succ]
      refine wpAnyH_take (i := 11) (oi := { dst := some 67, op := Op.load 31 (Operand.tmp 4), type := 31, pos := "laws.go:326", after := #[{ on := 10, ground := Ground.guard }], guard := some (10, true) }) (v := ?_) rfl (by kernel_rfl) (by kernel_rfl) (by kernel_rfl) (fun _ _ _ h => h) (Or.inl ⟨by rfl, ?_⟩) (by assumption) ?_; rotate_left
      · intro W hW; (try dsimp only at hW); go_simp;  try (with_reducible rfl)
      try simp only [Act.put, List.setIfInBounds_toArray, List.set_cons_zero, List.set_cons_succ]
      refine wpAnyH_ready (rs := [12]) (by kernel_rfl) (by simp) (AllReadyH.cons (i := 12) (o := { dst := some 68, op := Op.call { callee := Callee.value (Operand.func 42), args := #[Operand.tmp 67], argTypes := #[31] }, type := 4, pos := "laws.go:326", after := #[{ on := 11, ground := Ground.data }, { on := 10, ground := Ground.chain }, { on := 10, ground := Ground.guard }], guard := some (10, true) }) rfl (fun K hK => ?_) AllReadyH.nil)
      go_simp
      refine ((unhide CR) _).mono ?_; rintro e y4 ⟨rfl, hb⟩
      try go_wp2_with fail
      refine hK.out _ _ (by (try dsimp only); first | assumption | exact s0 | exact keep9 (by assumption) (by assumption)) (fun hHeld => ?_)
      clear hK K
      try simp only [Act.put, List.setIfInBounds_toArray, List.set_cons_zero, List.set_cons_succ]
      refine wpAnyH_take (i := 13) (oi := { dst := some 69, op := Op.unOp UnOp.not 4 (Operand.tmp 68), type := 4, pos := "laws.go:326", after := #[{ on := 12, ground := Ground.data }, { on := 10, ground := Ground.guard }], guard := some (10, true) }) (v := ?_) rfl (by kernel_rfl) (by kernel_rfl) (by kernel_rfl) (fun _ _ _ h => h) (Or.inl ⟨by rfl, ?_⟩) (by assumption) ?_; rotate_left
      · intro W hW; (try dsimp only at hW); go_simp;  try (with_reducible rfl)
      try simp only [Act.put, List.setIfInBounds_toArray, List.set_cons_zero, List.set_cons_succ]
      refine wpAnyH_take (i := 14) (oi := { dst := some 70, op := Op.pick (Operand.tmp 66) (Operand.tmp 69) (Operand.const (Value.bool false)), type := 4, pos := "laws.go:326", after := #[{ on := 10, ground := Ground.data }, { on := 13, ground := Ground.data }], guard := none }) (v := ?_) rfl (by kernel_rfl) (by kernel_rfl) (by kernel_rfl) (fun _ _ _ h => h) (Or.inl ⟨by rfl, ?_⟩) (by assumption) ?_; rotate_left
      · intro W hW; (try dsimp only at hW); go_simp;  try (with_reducible rfl)
      try simp only [Act.put, List.setIfInBounds_toArray, List.set_cons_zero, List.set_cons_succ]
      refine wpAnyH_take (i := 15) (oi := { dst := some 71, op := Op.move (Operand.tmp 70), type := 4, pos := "laws.go:326", after := #[{ on := 14, ground := Ground.data }, { on := 12, ground := Ground.chain }], guard := none }) (v := ?_) rfl (by kernel_rfl) (by kernel_rfl) (by kernel_rfl) (fun _ _ _ h => h) (Or.inl ⟨by rfl, ?_⟩) (by assumption) ?_; rotate_left
      · intro W hW; (try dsimp only at hW); go_simp;  try (with_reducible rfl)
      try simp only [Act.put, List.setIfInBounds_toArray, List.set_cons_zero, List.set_cons_succ]
      refine wpAnyH_take (i := 16) (oi := { dst := some 72, op := Op.load 31 (Operand.tmp 4), type := 31, pos := "laws.go:326", after := #[{ on := 15, ground := Ground.guard }], guard := some (15, true) }) (v := ?_) rfl (by kernel_rfl) (by kernel_rfl) (by kernel_rfl) (fun _ _ _ h => h) (Or.inl ⟨by rfl, ?_⟩) (by assumption) ?_; rotate_left
      · intro W hW; (try dsimp only at hW); go_simp;  try (with_reducible rfl)
      try simp only [Act.put, List.setIfInBounds_toArray, List.set_cons_zero, List.set_cons_succ]
      refine wpAnyH_take (i := 18) (oi := { dst := some 74, op := Op.fieldAddr 28 (Operand.tmp 3) 1, type := 0, pos := "laws.go:326", after := #[{ on := 15, ground := Ground.guard }], guard := some (15, true) }) (v := ?_) rfl (by kernel_rfl) (by kernel_rfl) (by kernel_rfl) (fun _ _ _ h => h) (Or.inl ⟨by rfl, ?_⟩) (by assumption) ?_; rotate_left
      · intro W hW; (try dsimp only at hW); go_simp;  try (with_reducible rfl)
      try simp only [Act.put, List.setIfInBounds_toArray, List.set_cons_zero, List.set_cons_succ]
      refine wpAnyH_take (i := 19) (oi := { dst := some 75, op := Op.load 3 (Operand.tmp 74), type := 3, pos := "laws.go:326", after := #[{ on := 18, ground := Ground.data }, { on := 15, ground := Ground.guard }], guard := some (15, true) }) (v := ?_) rfl (by kernel_rfl) (by kernel_rfl) (by kernel_rfl) (fun _ _ _ h => h) (Or.inl ⟨by rfl, ?_⟩) (by assumption) ?_; rotate_left
      · intro W hW; (try dsimp only at hW); go_simp;  try (with_reducible rfl)
      try simp only [Act.put, List.setIfInBounds_toArray, List.set_cons_zero, List.set_cons_succ]
      refine wpAnyH_take (i := 20) (oi := { dst := some 76, op := Op.binOp BinOp.add 3 (Operand.tmp 75) (Operand.const (Value.int IntKind.i64 1)) 3, type := 3, pos := "laws.go:326", after := #[{ on := 19, ground := Ground.data }, { on := 15, ground := Ground.guard }], guard := some (15, true) }) (v := ?_) rfl (by kernel_rfl) (by kernel_rfl) (by kernel_rfl) (fun _ _ _ h => h) (Or.inl ⟨by rfl, ?_⟩) (by assumption) ?_; rotate_left
      · intro W hW; (try dsimp only at hW); go_simp;  try (with_reducible rfl)
      try simp only [Act.put, List.setIfInBounds_toArray, List.set_cons_zero, List.set_cons_succ]
      refine wpAnyH_ready (rs := [17]) (by kernel_rfl) (by simp) (AllReadyH.cons (i := 17) (o := { dst := some 73, op := Op.call { callee := Callee.value (Operand.func 32), args := #[Operand.tmp 72], argTypes := #[31] }, type := 3, pos := "laws.go:326", after := #[{ on := 16, ground := Ground.data }, { on := 15, ground := Ground.chain }, { on := 15, ground := Ground.guard }], guard := some (15, true) }) rfl (fun K hK => ?_) AllReadyH.nil)
      go_simp
      refine ((unhide CW) _).mono ?_; rintro e y5 ⟨rfl, hb⟩
      try go_wp2_with fail
      refine hK.out _ _ (by (try dsimp only); first | assumption | exact s0 | exact keep9 (by assumption) (by assumption)) (fun hHeld => ?_)
      clear hK K
      try simp only [Act.put, List.setIfInBounds_toArray, List.set_cons_zero, List.set_cons_succ]
      refine wpAnyH_take (i := 21) (oi := { dst := some 77, op := Op.binOp BinOp.eql 3 (Operand.tmp 73) (Operand.tmp 76) 3, type := 4, pos := "laws.go:326", after := #[{ on := 17, ground := Ground.data }, { on := 20, ground := Ground.data }, { on := 15, ground := Ground.guard }], guard := some (15, true) }) (v := ?_) rfl (by kernel_rfl) (by kernel_rfl) (by kernel_rfl) (fun _ _ _ h => h) (Or.inl ⟨by rfl, ?_⟩) (by assumption) ?_; rotate_left
      · intro W hW; (try dsimp only at hW); go_simp;  try (with_reducible rfl)
      try simp only [Act.put, List.setIfInBounds_toArray, List.set_cons_zero, List.set_cons_succ]
      refine wpAnyH_take (i := 22) (oi := { dst := some 78, op := Op.pick (Operand.tmp 71) (Operand.tmp 77) (Operand.const (Value.bool false)), type := 4, pos := "laws.go:326", after := #[{ on := 15, ground := Ground.data }, { on := 21, ground := Ground.data }], guard := none }) (v := ?_) rfl (by kernel_rfl) (by kernel_rfl) (by kernel_rfl) (fun _ _ _ h => h) (Or.inl ⟨by rfl, ?_⟩) (by assumption) ?_; rotate_left
      · intro W hW; (try dsimp only at hW); go_simp;  try (with_reducible rfl)
      try simp only [Act.put, List.setIfInBounds_toArray, List.set_cons_zero, List.set_cons_succ]
      refine wpAnyH_take (i := 23) (oi := { dst := some 79, op := Op.move (Operand.tmp 78), type := 4, pos := "laws.go:326", after := #[{ on := 22, ground := Ground.data }, { on := 17, ground := Ground.chain }], guard := none }) (v := ?_) rfl (by kernel_rfl) (by kernel_rfl) (by kernel_rfl) (fun _ _ _ h => h) (Or.inl ⟨by rfl, ?_⟩) (by assumption) ?_; rotate_left
      · intro W hW; (try dsimp only at hW); go_simp;  try (with_reducible rfl)
      try simp only [Act.put, List.setIfInBounds_toArray, List.set_cons_zero, List.set_cons_succ]
      refine wpAnyH_take (i := 24) (oi := { dst := some 80, op := Op.load 31 (Operand.tmp 4), type := 31, pos := "laws.go:326", after := #[{ on := 23, ground := Ground.guard }], guard := some (23, true) }) (v := ?_) rfl (by kernel_rfl) (by kernel_rfl) (by kernel_rfl) (fun _ _ _ h => h) (Or.inl ⟨by rfl, ?_⟩) (by assumption) ?_; rotate_left
      · intro W hW; (try dsimp only at hW); go_simp;  try (with_reducible rfl)
      try simp only [Act.put, List.setIfInBounds_toArray, List.set_cons_zero, List.set_cons_succ]
      refine wpAnyH_take (i := 26) (oi := { dst := some 82, op := Op.load 28 (Operand.tmp 3), type := 28, pos := "laws.go:326", after := #[{ on := 23, ground := Ground.guard }], guard := some (23, true) }) (v := ?_) rfl (by kernel_rfl) (by kernel_rfl) (by kernel_rfl) (fun _ _ _ h => h) (Or.inl ⟨by rfl, ?_⟩) (by assumption) ?_; rotate_left
      · intro W hW; (try dsimp only at hW); go_simp;  try (with_reducible rfl)
      try simp only [Act.put, List.setIfInBounds_toArray, List.set_cons_zero, List.set_cons_succ]
      refine wpAnyH_ready (rs := [25]) (by kernel_rfl) (by simp) (AllReadyH.cons (i := 25) (o := { dst := some 81, op := Op.call { callee := Callee.value (Operand.func 43), args := #[Operand.tmp 80], argTypes := #[31] }, type := 3, pos := "laws.go:326", after := #[{ on := 24, ground := Ground.data }, { on := 23, ground := Ground.chain }, { on := 23, ground := Ground.guard }], guard := some (23, true) }) rfl (fun K hK => ?_) AllReadyH.nil)
      go_simp
      refine ((unhide CG) _).mono ?_; rintro e y6 ⟨rfl, hb⟩
      try go_wp2_with fail
      refine hK.out _ _ (by (try dsimp only); first | assumption | exact s0 | exact keep9 (by assumption) (by assumption)) (fun hHeld => ?_)
      clear hK K
      try simp only [Act.put, List.setIfInBounds_toArray, List.set_cons_zero, List.set_cons_succ]
      refine wpAnyH_ready (rs := [27]) (by kernel_rfl) (by simp) (AllReadyH.cons (i := 27) (o := { dst := some 83, op := Op.call { callee := Callee.value (Operand.func 34), args := #[Operand.tmp 82], argTypes := #[28] }, type := 3, pos := "laws.go:326", after := #[{ on := 26, ground := Ground.data }, { on := 25, ground := Ground.chain }, { on := 23, ground := Ground.guard }], guard := some (23, true) }) rfl (fun K hK => ?_) AllReadyH.nil)
      go_simp
      refine ((unhide CE) _).mono ?_; rintro e y7 ⟨rfl, hb⟩
      try go_wp2_with fail
      refine hK.out _ _ (by (try dsimp only); first | assumption | exact s0 | exact keep9 (by assumption) (by assumption)) (fun hHeld => ?_)
      clear hK K
      try simp only [Act.put, List.setIfInBounds_toArray, List.set_cons_zero, List.set_cons_succ]
      refine wpAnyH_take (i := 28) (oi := { dst := some 84, op := Op.binOp BinOp.eql 3 (Operand.tmp 81) (Operand.tmp 83) 3, type := 4, pos := "laws.go:326", after := #[{ on := 25, ground := Ground.data }, { on := 27, ground := Ground.data }, { on := 23, ground := Ground.guard }], guard := some (23, true) }) (v := ?_) rfl (by kernel_rfl) (by kernel_rfl) (by kernel_rfl) (fun _ _ _ h => h) (Or.inl ⟨by rfl, ?_⟩) (by assumption) ?_; rotate_left
      · intro W hW; (try dsimp only at hW); go_simp;  try (with_reducible rfl)
      try simp only [Act.put, List.setIfInBounds_toArray, List.set_cons_zero, List.set_cons_succ]
      refine wpAnyH_take (i := 29) (oi := { dst := some 85, op := Op.pick (Operand.tmp 79) (Operand.tmp 84) (Operand.const (Value.bool false)), type := 4, pos := "laws.go:326", after := #[{ on := 23, ground := Ground.data }, { on := 28, ground := Ground.data }], guard := none }) (v := ?_) rfl (by kernel_rfl) (by kernel_rfl) (by kernel_rfl) (fun _ _ _ h => h) (Or.inl ⟨by rfl, ?_⟩) (by assumption) ?_; rotate_left
      · intro W hW; (try dsimp only at hW); go_simp;  try (with_reducible rfl)
      try simp only [Act.put, List.setIfInBounds_toArray, List.set_cons_zero, List.set_cons_succ]
      refine wpAnyH_take (i := 30) (oi := { dst := some 2, op := Op.assign (Operand.tmp 85), type := 4, pos := "laws.go:326", after := #[{ on := 29, ground := Ground.data }, { on := 27, ground := Ground.chain }, { on := 0, ground := Ground.phase }, { on := 1, ground := Ground.phase }, { on := 2, ground := Ground.phase }, { on := 3, ground := Ground.phase }, { on := 4, ground := Ground.phase }, { on := 5, ground := Ground.phase }, { on := 6, ground := Ground.phase }, { on := 7, ground := Ground.phase }, { on := 8, ground := Ground.phase }, { on := 9, ground := Ground.phase }, { on := 10, ground := Ground.phase }, { on := 11, ground := Ground.phase }, { on := 12, ground := Ground.phase }, { on := 13, ground := Ground.phase }, { on := 14, ground := Ground.phase }, { on := 15, ground := Ground.phase }, { on := 16, ground := Ground.phase }, { on := 17, ground := Ground.phase }, { on := 18, ground := Ground.phase }, { on := 19, ground := Ground.phase }, { on := 20, ground := Ground.phase }, { on := 21, ground := Ground.phase }, { on := 22, ground := Ground.phase }, { on := 23, ground := Ground.phase }, { on := 24, ground := Ground.phase }, { on := 25, ground := Ground.phase }, { on := 26, ground := Ground.phase }, { on := 27, ground := Ground.phase }, { on := 28, ground := Ground.phase }, { on := 29, ground := Ground.phase }], guard := none }) (v := ?_) rfl (by kernel_rfl) (by kernel_rfl) (by kernel_rfl) (fun _ _ _ h => h) (Or.inl ⟨by rfl, ?_⟩) (by assumption) ?_; rotate_left
      · intro W hW; (try dsimp only at hW); go_simp;  try (with_reducible rfl)
      try simp only [Act.put, List.setIfInBounds_toArray, List.set_cons_zero, List.set_cons_succ]
      refine wpAnyH_done (by kernel_rfl) ?_ _
      have hE := hHeld.1
      clear hHeld s0
      have s9 : w5.heap.size ≤ y7.heap.size := Below.size hE
      have B9 := below_next (Nat.le_refl _) B8 hE
      have Sb9 := Sb8.below hE Sb8.lt
      have Kb9 := Kb8.below hE Kb8.lt
      have Wb9 := Wb8.below hE Wb8.lt
      clear B8 Sb8 Kb8 Wb8 hE
      go_wp2_with fail
      go_ret
      exact ⟨rfl, B9⟩
  · have B0 : Below w.heap.size w w := Below.refl _ _
    have hnI : (1048576 : Int) < (n : Int) := by omega
    go_enter Try.func8, Try.ntmps8
    go_wp2_with fail
    go_ret
    exact ⟨rfl, B0⟩

end Go.Proofs.Ytegfcpdkehgdpaa

/- The walk of FnSettingText. Conditions: two slices of bytes; what start-up laid is laid. -/
import Derived.Test.YthdmnpjdpfeleaaDoorPs3
import Derived.Test.YthdmnpjdpfeleaaDoorSt
namespace Go.Proofs.YthdmnpjdpfeleaaDoor
open Go.RowKit

theorem Sx.text_some {t : ByteArray} (h : 1 ≤ t.size) : t.toList.isEmpty = false := by
  have h1 : t.toList.length = t.size := by rw [ByteArray.toList_eq, Array.length_toList]; rfl
  cases hl : t.toList with
  | nil => rw [hl] at h1; simp at h1; omega
  | cons _ _ => rfl
theorem Sx.text_none : (str ([] : List UInt8)).toList.isEmpty = true := by rw [ByteArray.toList_eq]; rfl
set_option maxRecDepth 100000 in
set_option maxHeartbeats 4000000 in
theorem law_FnSettingText (A : Option Addr) (n c : Nat) (A2 : Option Addr) (n2 c2 : Nat) (w : World) (h : Src w w.heap.size A n) (hc : n ≤ c) (hcm : c ≤ maxLen) (h2 : Src w w.heap.size A2 n2) (hc2 : n2 ≤ c2) (hcm2 : c2 ≤ maxLen) (hE : Env w) :
    Calls Tryd.prog 5 #[.slice A n c, .slice A2 n2 c2] w fun e w' => e = .returned (.bool true) ∧ Below w.heap.size w w' := by
  have B0 : Below w.heap.size w w := Below.refl _ _
  by_cases hn : n ≤ 1048576
  · have hnI : ¬ (1048576 : Int) < (n : Int) := by omega
    by_cases hn2 : n2 ≤ 1048576
    · have hnJ : ¬ (1048576 : Int) < (n2 : Int) := by omega
      have HD := hide (draw_FormatSetting A n c w h hn hc hcm)
      have H2 := hide (fun (wx : World) (hb : Below w.heap.size w wx) => draw_ParseSetting A2 n2 c2 wx (h2.next hb) hn2 hc2 hcm2)
      clear h h2
      go_enter Tryd.func5, Tryd.ntmps5
      go_wp2_with fail
      refine (unhide HD).mono ?_; rintro e w1 ⟨o, l, m, rfl, hf, hb⟩
      have s1 : w.heap.size ≤ w1.heap.size := Below.size hb
      have B1 := below_next (Nat.le_refl _) B0 hb
      clear B0 hb
      clear HD hf
      have s2 : (w1.alloc (.cells #[.int .i64 o, .int .i64 l, .int .i64 m] 23)).heap.size = w1.heap.size + 1 := World.size_alloc _ _
      have B2 := B1.alloc B1.size (.cells #[.int .i64 o, .int .i64 l, .int .i64 m] 23)
      have K2 := Blk.new w1 23 #[.int .i64 o, .int .i64 l, .int .i64 m]
      clear B1
      cases hok : Sx.setOK o l m
      · skip
        have CF := hide (fun wx => by have := impl_FormatSetting o l m wx; rwa [show Sx.fmtS o l m = str [] from if_neg (by simp [hok])] at this)
        have CP := hide (fun wx => by have := spec_FormatSetting o l m wx; rwa [show Sx.fmtS o l m = str [] from if_neg (by simp [hok])] at this)
        have CV := hide (fun wx => by have := impl_SettingValid o l m wx; rwa [hok] at this)
        have e0 := Sx.text_none
        clear hok
        have Kc0 : (w1.alloc (.cells #[.int .i64 o, .int .i64 l, .int .i64 m] 23)).cell? ⟨w1.heap.size, 0, none⟩ = some (.int .i64 o) := K2.cell 0
        have Kc1 : (w1.alloc (.cells #[.int .i64 o, .int .i64 l, .int .i64 m] 23)).cell? ⟨w1.heap.size, 1, none⟩ = some (.int .i64 l) := K2.cell 1
        have Kc2 : (w1.alloc (.cells #[.int .i64 o, .int .i64 l, .int .i64 m] 23)).cell? ⟨w1.heap.size, 2, none⟩ = some (.int .i64 m) := K2.cell 2
        go_wp2_with fail
        refine ((unhide CF) _).mono ?_; rintro e w2 ⟨rfl, hb⟩
        have s3 : (w1.alloc (.cells #[.int .i64 o, .int .i64 l, .int .i64 m] 23)).heap.size ≤ w2.heap.size := Below.size hb
        have B3 := below_next (Nat.le_refl _) B2 hb
        have K3 := K2.below hb K2.lt
        clear B2 K2 Kc0 Kc1 Kc2 hb
        have Kc0 : w2.cell? ⟨w1.heap.size, 0, none⟩ = some (.int .i64 o) := K3.cell 0
        have Kc1 : w2.cell? ⟨w1.heap.size, 1, none⟩ = some (.int .i64 l) := K3.cell 1
        have Kc2 : w2.cell? ⟨w1.heap.size, 2, none⟩ = some (.int .i64 m) := K3.cell 2
        go_wp2_with fail
        refine ((unhide CP) _).mono ?_; rintro e w3 ⟨rfl, hb⟩
        have s4 : w2.heap.size ≤ w3.heap.size := Below.size hb
        have B4 := below_next (Nat.le_refl _) B3 hb
        have K4 := K3.below hb K3.lt
        clear B3 K3 Kc0 Kc1 Kc2 hb
        have Kc0 : w3.cell? ⟨w1.heap.size, 0, none⟩ = some (.int .i64 o) := K4.cell 0
        have Kc1 : w3.cell? ⟨w1.heap.size, 1, none⟩ = some (.int .i64 l) := K4.cell 1
        have Kc2 : w3.cell? ⟨w1.heap.size, 2, none⟩ = some (.int .i64 m) := K4.cell 2
        go_wp2_with fail
        refine ((unhide CV) _).mono ?_; rintro e w4 ⟨rfl, hb⟩
        have s5 : w3.heap.size ≤ w4.heap.size := Below.size hb
        have B5 := below_next (Nat.le_refl _) B4 hb
        have K5 := K4.below hb K4.lt
        clear B4 K4 Kc0 Kc1 Kc2 hb
        clear CF CP CV
        go_wp2_with fail
        refine ((unhide H2) _ B5).mono ?_; rintro e w5 ⟨t, rfl, ht, hb⟩
        have s6 : w4.heap.size ≤ w5.heap.size := Below.size hb
        have B6 := below_next (Nat.le_refl _) B5 hb
        have K6 := K5.below hb K5.lt
        clear B5 K5 hb
        clear H2
        have CI := hide (fun (wx : World) (hb : Below w.heap.size w wx) => impl_ParseSetting t wx (by omega) (hE.below hb (rfl : 0 = 0)))
        have CS := hide (fun wx => spec_ParseSetting t wx)
        go_wp2_with fail
        refine ((unhide CI) _ B6).mono ?_; rintro e w6 ⟨hp, hb⟩
        have s7 : w5.heap.size ≤ w6.heap.size := Below.size hb
        have B7 := below_next (Nat.le_refl _) B6 hb
        have K7 := K6.below hb K6.lt
        clear B6 K6 hb
        clear CI
        rcases hp with ⟨o1, l1, m1, hk1, hf1, rfl⟩ | ⟨hn1, rfl⟩
        · skip
          have s8 : (w6.alloc (.cells #[.int .i64 o1, .int .i64 l1, .int .i64 m1] 23)).heap.size = w6.heap.size + 1 := World.size_alloc _ _
          have B8 := B7.alloc B7.size (.cells #[.int .i64 o1, .int .i64 l1, .int .i64 m1] 23)
          have K8 := K7.alloc (.cells #[.int .i64 o1, .int .i64 l1, .int .i64 m1] 23)
          have G8 := Blk.new w6 23 #[.int .i64 o1, .int .i64 l1, .int .i64 m1]
          clear B7 K7
          go_wp2_with fail
          refine ((unhide CS) _).mono ?_; rintro e w7 ⟨hq, hb⟩
          have s9 : (w6.alloc (.cells #[.int .i64 o1, .int .i64 l1, .int .i64 m1] 23)).heap.size ≤ w7.heap.size := Below.size hb
          have B9 := below_next (Nat.le_refl _) B8 hb
          have K9 := K8.below hb K8.lt
          have G9 := G8.below hb G8.lt
          clear B8 K8 G8 hb
          clear CS
          rcases hq with ⟨o2, l2, m2, hk2, hf2, rfl⟩ | ⟨hn3, rfl⟩
          rotate_left
          · exact absurd hf1 (hn3 _ _ _ hk1)
          obtain ⟨rfl, rfl, rfl⟩ := Sx.fmt_inj hk1 hk2 (hf1.trans hf2.symm)
          have CF := hide (fun wx => by have := impl_FormatSetting o1 l1 m1 wx; rwa [Sx.fmt_yes hk1, hf1] at this)
          clear hk1 hk2 hf1 hf2
          have s10 : (w7.alloc (.cells #[.int .i64 o1, .int .i64 l1, .int .i64 m1] 23)).heap.size = w7.heap.size + 1 := World.size_alloc _ _
          have B10 := B9.alloc B9.size (.cells #[.int .i64 o1, .int .i64 l1, .int .i64 m1] 23)
          have K10 := K9.alloc (.cells #[.int .i64 o1, .int .i64 l1, .int .i64 m1] 23)
          have G10 := G9.alloc (.cells #[.int .i64 o1, .int .i64 l1, .int .i64 m1] 23)
          have W10 := Blk.new w7 23 #[.int .i64 o1, .int .i64 l1, .int .i64 m1]
          clear B9 K9 G9
          have Gc0 : (w7.alloc (.cells #[.int .i64 o1, .int .i64 l1, .int .i64 m1] 23)).cell? ⟨w6.heap.size, 0, none⟩ = some (.int .i64 o1) := G10.cell 0
          have Gc1 : (w7.alloc (.cells #[.int .i64 o1, .int .i64 l1, .int .i64 m1] 23)).cell? ⟨w6.heap.size, 1, none⟩ = some (.int .i64 l1) := G10.cell 1
          have Gc2 : (w7.alloc (.cells #[.int .i64 o1, .int .i64 l1, .int .i64 m1] 23)).cell? ⟨w6.heap.size, 2, none⟩ = some (.int .i64 m1) := G10.cell 2
          have Wc0 : (w7.alloc (.cells #[.int .i64 o1, .int .i64 l1, .int .i64 m1] 23)).cell? ⟨w7.heap.size, 0, none⟩ = some (.int .i64 o1) := W10.cell 0
          have Wc1 : (w7.alloc (.cells #[.int .i64 o1, .int .i64 l1, .int .i64 m1] 23)).cell? ⟨w7.heap.size, 1, none⟩ = some (.int .i64 l1) := W10.cell 1
          have Wc2 : (w7.alloc (.cells #[.int .i64 o1, .int .i64 l1, .int .i64 m1] 23)).cell? ⟨w7.heap.size, 2, none⟩ = some (.int .i64 m1) := W10.cell 2
          go_wp2_with fail
          refine ((unhide CF) _).mono ?_; rintro e w8 ⟨rfl, hb⟩
          have s11 : (w7.alloc (.cells #[.int .i64 o1, .int .i64 l1, .int .i64 m1] 23)).heap.size ≤ w8.heap.size := Below.size hb
          have B11 := below_next (Nat.le_refl _) B10 hb
          have K11 := K10.below hb K10.lt
          have G11 := G10.below hb G10.lt
          have W11 := W10.below hb W10.lt
          clear B10 K10 G10 W10 Gc0 Gc1 Gc2 Wc0 Wc1 Wc2 hb
          go_wp2_with fail
          go_ret
          exact ⟨rfl, B11⟩
        · skip
          have s8 : (w6.alloc (.cells #[.int .i64 0, .int .i64 0, .int .i64 0] 23)).heap.size = w6.heap.size + 1 := World.size_alloc _ _
          have B8 := B7.alloc B7.size (.cells #[.int .i64 0, .int .i64 0, .int .i64 0] 23)
          have K8 := K7.alloc (.cells #[.int .i64 0, .int .i64 0, .int .i64 0] 23)
          have G8 := Blk.new w6 23 #[.int .i64 0, .int .i64 0, .int .i64 0]
          clear B7 K7
          go_wp2_with fail
          refine ((unhide CS) _).mono ?_; rintro e w7 ⟨hq, hb⟩
          have s9 : (w6.alloc (.cells #[.int .i64 0, .int .i64 0, .int .i64 0] 23)).heap.size ≤ w7.heap.size := Below.size hb
          have B9 := below_next (Nat.le_refl _) B8 hb
          have K9 := K8.below hb K8.lt
          have G9 := G8.below hb G8.lt
          clear B8 K8 G8 hb
          clear CS
          rcases hq with ⟨o2, l2, m2, hk2, hf2, rfl⟩ | ⟨hn3, rfl⟩
          · exact absurd hf2 (hn1 _ _ _ hk2)
          clear hn1 hn3
          have s10 : (w7.alloc (.cells #[.int .i64 0, .int .i64 0, .int .i64 0] 23)).heap.size = w7.heap.size + 1 := World.size_alloc _ _
          have B10 := B9.alloc B9.size (.cells #[.int .i64 0, .int .i64 0, .int .i64 0] 23)
          have K10 := K9.alloc (.cells #[.int .i64 0, .int .i64 0, .int .i64 0] 23)
          have G10 := G9.alloc (.cells #[.int .i64 0, .int .i64 0, .int .i64 0] 23)
          have W10 := Blk.new w7 23 #[.int .i64 0, .int .i64 0, .int .i64 0]
          clear B9 K9 G9
          have Gc0 : (w7.alloc (.cells #[.int .i64 0, .int .i64 0, .int .i64 0] 23)).cell? ⟨w6.heap.size, 0, none⟩ = some (.int .i64 0) := G10.cell 0
          have Gc1 : (w7.alloc (.cells #[.int .i64 0, .int .i64 0, .int .i64 0] 23)).cell? ⟨w6.heap.size, 1, none⟩ = some (.int .i64 0) := G10.cell 1
          have Gc2 : (w7.alloc (.cells #[.int .i64 0, .int .i64 0, .int .i64 0] 23)).cell? ⟨w6.heap.size, 2, none⟩ = some (.int .i64 0) := G10.cell 2
          have Wc0 : (w7.alloc (.cells #[.int .i64 0, .int .i64 0, .int .i64 0] 23)).cell? ⟨w7.heap.size, 0, none⟩ = some (.int .i64 0) := W10.cell 0
          have Wc1 : (w7.alloc (.cells #[.int .i64 0, .int .i64 0, .int .i64 0] 23)).cell? ⟨w7.heap.size, 1, none⟩ = some (.int .i64 0) := W10.cell 1
          have Wc2 : (w7.alloc (.cells #[.int .i64 0, .int .i64 0, .int .i64 0] 23)).cell? ⟨w7.heap.size, 2, none⟩ = some (.int .i64 0) := W10.cell 2
          go_wp2_with fail
          go_ret
          exact ⟨rfl, B10⟩
      · skip
        have hsz := Sx.fmt_size hok
        have HFY := hide (Sx.fmt_yes hok)
        obtain ⟨u, hu⟩ : ∃ u, u = Sx.fmtS o l m := ⟨_, rfl⟩
        rw [← hu] at hsz
        have CF := hide (fun wx => by have := impl_FormatSetting o l m wx; rwa [← hu] at this)
        have CP := hide (fun wx => by have := spec_FormatSetting o l m wx; rwa [← hu] at this)
        have CV := hide (fun wx => by have := impl_SettingValid o l m wx; rwa [hok] at this)
        have CI := hide (fun (wx : World) (hb : Below w.heap.size w wx) => impl_ParseSetting u wx (by omega) (hE.below hb (rfl : 0 = 0)))
        have HU := hide (hu.trans HFY.out)
        have HOK := hide hok
        have e0 := Sx.text_some hsz.1
        clear hok hu HFY hsz
        have Kc0 : (w1.alloc (.cells #[.int .i64 o, .int .i64 l, .int .i64 m] 23)).cell? ⟨w1.heap.size, 0, none⟩ = some (.int .i64 o) := K2.cell 0
        have Kc1 : (w1.alloc (.cells #[.int .i64 o, .int .i64 l, .int .i64 m] 23)).cell? ⟨w1.heap.size, 1, none⟩ = some (.int .i64 l) := K2.cell 1
        have Kc2 : (w1.alloc (.cells #[.int .i64 o, .int .i64 l, .int .i64 m] 23)).cell? ⟨w1.heap.size, 2, none⟩ = some (.int .i64 m) := K2.cell 2
        go_wp2_with fail
        refine ((unhide CF) _).mono ?_; rintro e w2 ⟨rfl, hb⟩
        have s3 : (w1.alloc (.cells #[.int .i64 o, .int .i64 l, .int .i64 m] 23)).heap.size ≤ w2.heap.size := Below.size hb
        have B3 := below_next (Nat.le_refl _) B2 hb
        have K3 := K2.below hb K2.lt
        clear B2 K2 Kc0 Kc1 Kc2 hb
        have Kc0 : w2.cell? ⟨w1.heap.size, 0, none⟩ = some (.int .i64 o) := K3.cell 0
        have Kc1 : w2.cell? ⟨w1.heap.size, 1, none⟩ = some (.int .i64 l) := K3.cell 1
        have Kc2 : w2.cell? ⟨w1.heap.size, 2, none⟩ = some (.int .i64 m) := K3.cell 2
        go_wp2_with fail
        refine ((unhide CP) _).mono ?_; rintro e w3 ⟨rfl, hb⟩
        have s4 : w2.heap.size ≤ w3.heap.size := Below.size hb
        have B4 := below_next (Nat.le_refl _) B3 hb
        have K4 := K3.below hb K3.lt
        clear B3 K3 Kc0 Kc1 Kc2 hb
        have Kc0 : w3.cell? ⟨w1.heap.size, 0, none⟩ = some (.int .i64 o) := K4.cell 0
        have Kc1 : w3.cell? ⟨w1.heap.size, 1, none⟩ = some (.int .i64 l) := K4.cell 1
        have Kc2 : w3.cell? ⟨w1.heap.size, 2, none⟩ = some (.int .i64 m) := K4.cell 2
        go_wp2_with fail
        refine ((unhide CV) _).mono ?_; rintro e w4 ⟨rfl, hb⟩
        have s5 : w3.heap.size ≤ w4.heap.size := Below.size hb
        have B5 := below_next (Nat.le_refl _) B4 hb
        have K5 := K4.below hb K4.lt
        clear B4 K4 Kc0 Kc1 Kc2 hb
        clear CF CP CV
        have Kc0 : w4.cell? ⟨w1.heap.size, 0, none⟩ = some (.int .i64 o) := K5.cell 0
        have Kc1 : w4.cell? ⟨w1.heap.size, 1, none⟩ = some (.int .i64 l) := K5.cell 1
        have Kc2 : w4.cell? ⟨w1.heap.size, 2, none⟩ = some (.int .i64 m) := K5.cell 2
        go_wp2_with fail
        refine ((unhide CI) _ B5).mono ?_; rintro e w5 ⟨hp, hb⟩
        have s6 : w4.heap.size ≤ w5.heap.size := Below.size hb
        have B6 := below_next (Nat.le_refl _) B5 hb
        have K6 := K5.below hb K5.lt
        clear B5 K5 Kc0 Kc1 Kc2 hb
        clear CI
        rcases hp with ⟨o3, l3, m3, hk3, hf3, rfl⟩ | ⟨hn3, rfl⟩
        rotate_left
        · exact absurd HU.out.symm (hn3 _ _ _ HOK.out)
        obtain ⟨rfl, rfl, rfl⟩ := Sx.fmt_inj HOK.out hk3 (HU.out.symm.trans hf3.symm)
        clear hk3 hf3 HU HOK
        have s7 : (w5.alloc (.cells #[.int .i64 o, .int .i64 l, .int .i64 m] 23)).heap.size = w5.heap.size + 1 := World.size_alloc _ _
        have B7 := B6.alloc B6.size (.cells #[.int .i64 o, .int .i64 l, .int .i64 m] 23)
        have K7 := K6.alloc (.cells #[.int .i64 o, .int .i64 l, .int .i64 m] 23)
        have Y7 := Blk.new w5 23 #[.int .i64 o, .int .i64 l, .int .i64 m]
        clear B6 K6
        have Kc0 : (w5.alloc (.cells #[.int .i64 o, .int .i64 l, .int .i64 m] 23)).cell? ⟨w1.heap.size, 0, none⟩ = some (.int .i64 o) := K7.cell 0
        have Kc1 : (w5.alloc (.cells #[.int .i64 o, .int .i64 l, .int .i64 m] 23)).cell? ⟨w1.heap.size, 1, none⟩ = some (.int .i64 l) := K7.cell 1
        have Kc2 : (w5.alloc (.cells #[.int .i64 o, .int .i64 l, .int .i64 m] 23)).cell? ⟨w1.heap.size, 2, none⟩ = some (.int .i64 m) := K7.cell 2
        have Yc0 : (w5.alloc (.cells #[.int .i64 o, .int .i64 l, .int .i64 m] 23)).cell? ⟨w5.heap.size, 0, none⟩ = some (.int .i64 o) := Y7.cell 0
        have Yc1 : (w5.alloc (.cells #[.int .i64 o, .int .i64 l, .int .i64 m] 23)).cell? ⟨w5.heap.size, 1, none⟩ = some (.int .i64 l) := Y7.cell 1
        have Yc2 : (w5.alloc (.cells #[.int .i64 o, .int .i64 l, .int .i64 m] 23)).cell? ⟨w5.heap.size, 2, none⟩ = some (.int .i64 m) := Y7.cell 2
        skip
        go_wp2_with fail
        clear Kc0 Kc1 Kc2 Yc0 Yc1 Yc2
        refine ((unhide H2) _ B7).mono ?_; rintro e w6 ⟨t, rfl, ht, hb⟩
        have s8 : (w5.alloc (.cells #[.int .i64 o, .int .i64 l, .int .i64 m] 23)).heap.size ≤ w6.heap.size := Below.size hb
        have B8 := below_next (Nat.le_refl _) B7 hb
        have K8 := K7.below hb K7.lt
        have Y8 := Y7.below hb Y7.lt
        clear B7 K7 Y7 hb
        clear H2
        have CI := hide (fun (wx : World) (hb : Below w.heap.size w wx) => impl_ParseSetting t wx (by omega) (hE.below hb (rfl : 0 = 0)))
        have CS := hide (fun wx => spec_ParseSetting t wx)
        go_wp2_with fail
        refine ((unhide CI) _ B8).mono ?_; rintro e w7 ⟨hp, hb⟩
        have s9 : w6.heap.size ≤ w7.heap.size := Below.size hb
        have B9 := below_next (Nat.le_refl _) B8 hb
        have K9 := K8.below hb K8.lt
        have Y9 := Y8.below hb Y8.lt
        clear B8 K8 Y8 hb
        clear CI
        rcases hp with ⟨o1, l1, m1, hk1, hf1, rfl⟩ | ⟨hn1, rfl⟩
        · skip
          have s10 : (w7.alloc (.cells #[.int .i64 o1, .int .i64 l1, .int .i64 m1] 23)).heap.size = w7.heap.size + 1 := World.size_alloc _ _
          have B10 := B9.alloc B9.size (.cells #[.int .i64 o1, .int .i64 l1, .int .i64 m1] 23)
          have K10 := K9.alloc (.cells #[.int .i64 o1, .int .i64 l1, .int .i64 m1] 23)
          have Y10 := Y9.alloc (.cells #[.int .i64 o1, .int .i64 l1, .int .i64 m1] 23)
          have G10 := Blk.new w7 23 #[.int .i64 o1, .int .i64 l1, .int .i64 m1]
          clear B9 K9 Y9
          go_wp2_with fail
          refine ((unhide CS) _).mono ?_; rintro e w8 ⟨hq, hb⟩
          have s11 : (w7.alloc (.cells #[.int .i64 o1, .int .i64 l1, .int .i64 m1] 23)).heap.size ≤ w8.heap.size := Below.size hb
          have B11 := below_next (Nat.le_refl _) B10 hb
          have K11 := K10.below hb K10.lt
          have Y11 := Y10.below hb Y10.lt
          have G11 := G10.below hb G10.lt
          clear B10 K10 Y10 G10 hb
          clear CS
          rcases hq with ⟨o2, l2, m2, hk2, hf2, rfl⟩ | ⟨hn3, rfl⟩
          rotate_left
          · exact absurd hf1 (hn3 _ _ _ hk1)
          obtain ⟨rfl, rfl, rfl⟩ := Sx.fmt_inj hk1 hk2 (hf1.trans hf2.symm)
          have CF := hide (fun wx => by have := impl_FormatSetting o1 l1 m1 wx; rwa [Sx.fmt_yes hk1, hf1] at this)
          clear hk1 hk2 hf1 hf2
          have s12 : (w8.alloc (.cells #[.int .i64 o1, .int .i64 l1, .int .i64 m1] 23)).heap.size = w8.heap.size + 1 := World.size_alloc _ _
          have B12 := B11.alloc B11.size (.cells #[.int .i64 o1, .int .i64 l1, .int .i64 m1] 23)
          have K12 := K11.alloc (.cells #[.int .i64 o1, .int .i64 l1, .int .i64 m1] 23)
          have Y12 := Y11.alloc (.cells #[.int .i64 o1, .int .i64 l1, .int .i64 m1] 23)
          have G12 := G11.alloc (.cells #[.int .i64 o1, .int .i64 l1, .int .i64 m1] 23)
          have W12 := Blk.new w8 23 #[.int .i64 o1, .int .i64 l1, .int .i64 m1]
          clear B11 K11 Y11 G11
          have Gc0 : (w8.alloc (.cells #[.int .i64 o1, .int .i64 l1, .int .i64 m1] 23)).cell? ⟨w7.heap.size, 0, none⟩ = some (.int .i64 o1) := G12.cell 0
          have Gc1 : (w8.alloc (.cells #[.int .i64 o1, .int .i64 l1, .int .i64 m1] 23)).cell? ⟨w7.heap.size, 1, none⟩ = some (.int .i64 l1) := G12.cell 1
          have Gc2 : (w8.alloc (.cells #[.int .i64 o1, .int .i64 l1, .int .i64 m1] 23)).cell? ⟨w7.heap.size, 2, none⟩ = some (.int .i64 m1) := G12.cell 2
          have Wc0 : (w8.alloc (.cells #[.int .i64 o1, .int .i64 l1, .int .i64 m1] 23)).cell? ⟨w8.heap.size, 0, none⟩ = some (.int .i64 o1) := W12.cell 0
          have Wc1 : (w8.alloc (.cells #[.int .i64 o1, .int .i64 l1, .int .i64 m1] 23)).cell? ⟨w8.heap.size, 1, none⟩ = some (.int .i64 l1) := W12.cell 1
          have Wc2 : (w8.alloc (.cells #[.int .i64 o1, .int .i64 l1, .int .i64 m1] 23)).cell? ⟨w8.heap.size, 2, none⟩ = some (.int .i64 m1) := W12.cell 2
          go_wp2_with fail
          refine ((unhide CF) _).mono ?_; rintro e w9 ⟨rfl, hb⟩
          have s13 : (w8.alloc (.cells #[.int .i64 o1, .int .i64 l1, .int .i64 m1] 23)).heap.size ≤ w9.heap.size := Below.size hb
          have B13 := below_next (Nat.le_refl _) B12 hb
          have K13 := K12.below hb K12.lt
          have Y13 := Y12.below hb Y12.lt
          have G13 := G12.below hb G12.lt
          have W13 := W12.below hb W12.lt
          clear B12 K12 Y12 G12 W12 Gc0 Gc1 Gc2 Wc0 Wc1 Wc2 hb
          go_wp2_with fail
          go_ret
          exact ⟨rfl, B13⟩
        · skip
          have s10 : (w7.alloc (.cells #[.int .i64 0, .int .i64 0, .int .i64 0] 23)).heap.size = w7.heap.size + 1 := World.size_alloc _ _
          have B10 := B9.alloc B9.size (.cells #[.int .i64 0, .int .i64 0, .int .i64 0] 23)
          have K10 := K9.alloc (.cells #[.int .i64 0, .int .i64 0, .int .i64 0] 23)
          have Y10 := Y9.alloc (.cells #[.int .i64 0, .int .i64 0, .int .i64 0] 23)
          have G10 := Blk.new w7 23 #[.int .i64 0, .int .i64 0, .int .i64 0]
          clear B9 K9 Y9
          go_wp2_with fail
          refine ((unhide CS) _).mono ?_; rintro e w8 ⟨hq, hb⟩
          have s11 : (w7.alloc (.cells #[.int .i64 0, .int .i64 0, .int .i64 0] 23)).heap.size ≤ w8.heap.size := Below.size hb
          have B11 := below_next (Nat.le_refl _) B10 hb
          have K11 := K10.below hb K10.lt
          have Y11 := Y10.below hb Y10.lt
          have G11 := G10.below hb G10.lt
          clear B10 K10 Y10 G10 hb
          clear CS
          rcases hq with ⟨o2, l2, m2, hk2, hf2, rfl⟩ | ⟨hn3, rfl⟩
          · exact absurd hf2 (hn1 _ _ _ hk2)
          clear hn1 hn3
          have s12 : (w8.alloc (.cells #[.int .i64 0, .int .i64 0, .int .i64 0] 23)).heap.size = w8.heap.size + 1 := World.size_alloc _ _
          have B12 := B11.alloc B11.size (.cells #[.int .i64 0, .int .i64 0, .int .i64 0] 23)
          have K12 := K11.alloc (.cells #[.int .i64 0, .int .i64 0, .int .i64 0] 23)
          have Y12 := Y11.alloc (.cells #[.int .i64 0, .int .i64 0, .int .i64 0] 23)
          have G12 := G11.alloc (.cells #[.int .i64 0, .int .i64 0, .int .i64 0] 23)
          have W12 := Blk.new w8 23 #[.int .i64 0, .int .i64 0, .int .i64 0]
          clear B11 K11 Y11 G11
          have Gc0 : (w8.alloc (.cells #[.int .i64 0, .int .i64 0, .int .i64 0] 23)).cell? ⟨w7.heap.size, 0, none⟩ = some (.int .i64 0) := G12.cell 0
          have Gc1 : (w8.alloc (.cells #[.int .i64 0, .int .i64 0, .int .i64 0] 23)).cell? ⟨w7.heap.size, 1, none⟩ = some (.int .i64 0) := G12.cell 1
          have Gc2 : (w8.alloc (.cells #[.int .i64 0, .int .i64 0, .int .i64 0] 23)).cell? ⟨w7.heap.size, 2, none⟩ = some (.int .i64 0) := G12.cell 2
          have Wc0 : (w8.alloc (.cells #[.int .i64 0, .int .i64 0, .int .i64 0] 23)).cell? ⟨w8.heap.size, 0, none⟩ = some (.int .i64 0) := W12.cell 0
          have Wc1 : (w8.alloc (.cells #[.int .i64 0, .int .i64 0, .int .i64 0] 23)).cell? ⟨w8.heap.size, 1, none⟩ = some (.int .i64 0) := W12.cell 1
          have Wc2 : (w8.alloc (.cells #[.int .i64 0, .int .i64 0, .int .i64 0] 23)).cell? ⟨w8.heap.size, 2, none⟩ = some (.int .i64 0) := W12.cell 2
          go_wp2_with fail
          go_ret
          exact ⟨rfl, B12⟩
    · have hnJ : (1048576 : Int) < (n2 : Int) := by omega
      go_enter Tryd.func5, Tryd.ntmps5
      go_wp2_with fail
      go_ret
      exact ⟨rfl, B0⟩
  · have hnI : (1048576 : Int) < (n : Int) := by omega
    go_enter Tryd.func5, Tryd.ntmps5
    go_wp2_with fail
    go_ret
    exact ⟨rfl, B0⟩
end Go.Proofs.YthdmnpjdpfeleaaDoor

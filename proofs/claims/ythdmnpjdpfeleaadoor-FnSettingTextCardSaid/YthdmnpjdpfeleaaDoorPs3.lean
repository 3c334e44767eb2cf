/- The walk of the exact law on ParseSetting. Conditions: what start-up laid is laid. -/
import Derived.Test.YthdmnpjdpfeleaaDoorPs2
namespace Go.Proofs.YthdmnpjdpfeleaaDoor
open Go.RowKit

set_option maxHeartbeats 1000000 in
theorem laws_eqSetting2 (o l m : Int) (w : World) :
    Calls Tryd.prog 8 #[sv o l m, sv o l m] w fun e w' => e = .returned (.bool true) ∧ Below w.heap.size w w' := by
  go_enter Tryd.func8, Tryd.ntmps8
  go_wp2_with fail
  go_ret
  exact ⟨rfl, (by repeat' (first | exact Below.refl _ _ | assumption | exact Nat.le_refl _ | apply Below.alloc | apply Below.drew | (focus (simp; done)) | (focus (simp; omega)) | omega))⟩
set_option maxRecDepth 100000 in
set_option maxHeartbeats 2000000 in
theorem law_FnExactParseSetting (t : ByteArray) (_hz : t.size ≤ maxLen) (w : World) (hE : Env w) :
    Calls Tryd.prog 3 #[.string t] w fun e w' => e = .returned (.bool true) ∧ Below w.heap.size w w' := by
  by_cases ht : t.size ≤ 1048576
  · have htI : ¬ (1048576 : Int) < (t.size : Int) := by omega
    have CS := hide (spec_ParseSetting t w)
    go_enter Tryd.func3, Tryd.ntmps3
    go_wp2_with fail
    refine (unhide CS).mono ?_; rintro e w1 ⟨h1, B1⟩
    clear CS
    rcases h1 with ⟨o, l, m, hk, hf, rfl⟩ | ⟨hn, rfl⟩
    · skip
      have B2 : Below w.heap.size w (w1.alloc (.cells #[.int .i64 o, .int .i64 l, .int .i64 m] 23)) := B1.alloc B1.size _
      have K2 := Blk.new w1 23 #[.int .i64 o, .int .i64 l, .int .i64 m]
      have CI := hide (impl_ParseSetting t (w1.alloc (.cells #[.int .i64 o, .int .i64 l, .int .i64 m] 23)) ht (hE.below B2 (rfl : 0 = 0)))
      go_wp2_with fail
      refine (unhide CI).mono ?_; rintro e w2 ⟨h2, hb2⟩
      clear CI
      have B3 := below_next (Nat.le_refl _) B2 hb2
      have K3 := K2.below hb2 K2.lt
      clear K2 B2 hb2
      rcases h2 with ⟨o2, l2, m2, hk2, hf2, rfl⟩ | ⟨hn, rfl⟩
      rotate_left
      · exact absurd hf (hn o l m hk)
      obtain ⟨rfl, rfl, rfl⟩ := Sx.fmt_inj hk hk2 (hf.trans hf2.symm)
      clear hk hk2 hf hf2
      have B4 : Below w.heap.size w (w2.alloc (.cells #[.int .i64 o, .int .i64 l, .int .i64 m] 23)) := B3.alloc B3.size _
      have K4 := K3.alloc (.cells #[.int .i64 o, .int .i64 l, .int .i64 m] 23)
      have L4 := Blk.new w2 23 #[.int .i64 o, .int .i64 l, .int .i64 m]
      have a0 : (w2.alloc (.cells #[.int .i64 o, .int .i64 l, .int .i64 m] 23)).cell? ⟨w1.heap.size, 0, none⟩ = some (.int .i64 o) := K4.cell 0
      have a1 : (w2.alloc (.cells #[.int .i64 o, .int .i64 l, .int .i64 m] 23)).cell? ⟨w1.heap.size, 1, none⟩ = some (.int .i64 l) := K4.cell 1
      have a2 : (w2.alloc (.cells #[.int .i64 o, .int .i64 l, .int .i64 m] 23)).cell? ⟨w1.heap.size, 2, none⟩ = some (.int .i64 m) := K4.cell 2
      have b0 : (w2.alloc (.cells #[.int .i64 o, .int .i64 l, .int .i64 m] 23)).cell? ⟨w2.heap.size, 0, none⟩ = some (.int .i64 o) := L4.cell 0
      have b1 : (w2.alloc (.cells #[.int .i64 o, .int .i64 l, .int .i64 m] 23)).cell? ⟨w2.heap.size, 1, none⟩ = some (.int .i64 l) := L4.cell 1
      have b2 : (w2.alloc (.cells #[.int .i64 o, .int .i64 l, .int .i64 m] 23)).cell? ⟨w2.heap.size, 2, none⟩ = some (.int .i64 m) := L4.cell 2
      have CE := hide (fun wx => laws_eqSetting2 o l m wx)
      go_wp2_with fail
      refine ((unhide CE) _).mono ?_; rintro e w4 ⟨rfl, hb4⟩
      have B5 := below_next (Nat.le_refl _) B4 hb4
      go_wp2_with fail
      go_ret
      exact ⟨rfl, B5⟩
    · skip
      have B2 : Below w.heap.size w (w1.alloc (.cells #[.int .i64 0, .int .i64 0, .int .i64 0] 23)) := B1.alloc B1.size _
      have K2 := Blk.new w1 23 #[.int .i64 0, .int .i64 0, .int .i64 0]
      have CI := hide (impl_ParseSetting t (w1.alloc (.cells #[.int .i64 0, .int .i64 0, .int .i64 0] 23)) ht (hE.below B2 (rfl : 0 = 0)))
      go_wp2_with fail
      refine (unhide CI).mono ?_; rintro e w2 ⟨h2, hb2⟩
      clear CI
      have B3 := below_next (Nat.le_refl _) B2 hb2
      have K3 := K2.below hb2 K2.lt
      clear K2 B2 hb2
      rcases h2 with ⟨o2, l2, m2, hk2, hf2, rfl⟩ | ⟨hn2, rfl⟩
      · exact absurd hf2 (hn o2 l2 m2 hk2)
      clear hn hn2
      have B4 : Below w.heap.size w (w2.alloc (.cells #[.int .i64 0, .int .i64 0, .int .i64 0] 23)) := B3.alloc B3.size _
      have K4 := K3.alloc (.cells #[.int .i64 0, .int .i64 0, .int .i64 0] 23)
      have L4 := Blk.new w2 23 #[.int .i64 0, .int .i64 0, .int .i64 0]
      have a0 : (w2.alloc (.cells #[.int .i64 0, .int .i64 0, .int .i64 0] 23)).cell? ⟨w1.heap.size, 0, none⟩ = some (.int .i64 0) := K4.cell 0
      have a1 : (w2.alloc (.cells #[.int .i64 0, .int .i64 0, .int .i64 0] 23)).cell? ⟨w1.heap.size, 1, none⟩ = some (.int .i64 0) := K4.cell 1
      have a2 : (w2.alloc (.cells #[.int .i64 0, .int .i64 0, .int .i64 0] 23)).cell? ⟨w1.heap.size, 2, none⟩ = some (.int .i64 0) := K4.cell 2
      have b0 : (w2.alloc (.cells #[.int .i64 0, .int .i64 0, .int .i64 0] 23)).cell? ⟨w2.heap.size, 0, none⟩ = some (.int .i64 0) := L4.cell 0
      have b1 : (w2.alloc (.cells #[.int .i64 0, .int .i64 0, .int .i64 0] 23)).cell? ⟨w2.heap.size, 1, none⟩ = some (.int .i64 0) := L4.cell 1
      have b2 : (w2.alloc (.cells #[.int .i64 0, .int .i64 0, .int .i64 0] 23)).cell? ⟨w2.heap.size, 2, none⟩ = some (.int .i64 0) := L4.cell 2
      have CE := hide (fun wx => laws_eqSetting2 0 0 0 wx)
      go_wp2_with fail
      refine ((unhide CE) _).mono ?_; rintro e w4 ⟨rfl, hb4⟩
      have B5 := below_next (Nat.le_refl _) B4 hb4
      go_wp2_with fail
      go_ret
      exact ⟨rfl, B5⟩
  · have htI : (1048576 : Int) < (t.size : Int) := by omega
    have B0 : Below w.heap.size w w := Below.refl _ _
    go_enter Tryd.func3, Tryd.ntmps3
    go_wp2_with fail
    go_ret
    exact ⟨rfl, B0⟩
end Go.Proofs.YthdmnpjdpfeleaaDoor

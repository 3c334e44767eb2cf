/- The walk of FnUnpackPack. Conditions: a slice of bytes. -/
import Derived.Test.YtkecappciglonaaDr3
import Derived.Test.YtkecappciglonaaN
namespace Go.Proofs.Ytkecappciglonaa
open Go.RowKit

theorem Sx.pack_un_same (hi : Bool) (l : List UInt8) : Sx.packL hi (Sx.unpackL hi l) = l := by
  rw [Sx.pack_un]
  have : ∀ b : UInt8, UInt8.ofNat (Sx.numOf hi (Sx.cbits hi b.toNat 8)) = b := fun b => by
    rw [Sx.numOf_cbits hi b.toNat 8 (by have := b.toNat_lt; simpa using this)]; simp
  simp only [this, List.map_id']
theorem Sx.un_valid {hi : Bool} {l : List UInt8} (h : l.length ≤ 4000) : Sx.bitsValid (str (Sx.unpackL hi l)) = true := by
  simp only [Sx.bitsValid, Bool.and_eq_true, decide_eq_true_iff]
  exact ⟨by rw [str_size, Sx.unpackL_length]; omega, Sx.unpackL_all _ _⟩

set_option maxRecDepth 100000 in
set_option maxHeartbeats 1000000 in
theorem law_FnUnpackPack (A : Option Addr) (n c : Nat) (w : World) (h : Src w w.heap.size A n) (hc : n ≤ c) (hcm : c ≤ maxLen) :
    Calls Try.prog 11 #[.slice A n c] w fun e w' => e = .returned (.bool true) ∧ Below w.heap.size w w' := by
  by_cases hn : n ≤ 1048576
  · have HD := hide (draw_UnpackBits A n c w h hn hc hcm)
    clear h
    go_enter Try.func11, Try.ntmps11
    go_wp2_with fail
    refine (unhide HD).mono ?_; rintro e w1 ⟨o, l, rfl, _, hl, hb⟩
    clear HD
    have hm : (str l).size ≤ 9223372036854775807 := by rw [str_size]; omega
    by_cases ho : Sx.streamOK o (str l) = true
    · have hq := Sx.stream_of ho
      have hl4 : l.length ≤ 4000 := by have := hq.2; rwa [str_size] at this
      have HU := hide (show Sx.ubS o (str l) = str (Sx.unpackL (Sx.hiOf o) l) from Sx.ub_yes ho)
      have HP := hide (Sx.pack_mk hq.1 (Sx.un_valid (hi := Sx.hiOf o) hl4))
      have HS := hide (show Sx.packS o (str (Sx.unpackL (Sx.hiOf o) l)) = str l by rw [Sx.pack_yes HP.out, str_data, Sx.pack_un_same])
      have hs1 : (str (Sx.unpackL (Sx.hiOf o) l)).size = 8 * l.length := by rw [str_size, Sx.unpackL_length]
      have hs2 : (((str (Sx.unpackL (Sx.hiOf o) l)).size : Int) == 8 * ((str l).size : Int)) = true := by rw [hs1, str_size]; simp
      have hs3 : (str (Sx.unpackL (Sx.hiOf o) l)).size ≤ 32000 := by omega
      have hs4 : (str l).size ≤ 4000 := by rw [str_size]; omega
      have HO := hide ho
      clear ho hs1 hq
      go_wp2_with fail
      refine (impl_UnpackBits _ _ _ hm).mono ?_; rintro e w2 ⟨rfl, hb2⟩
      rw [HO.out, HU.out]
      have B2 := below_next (Nat.le_refl _) hb hb2
      go_wp2_with fail
      refine (spec_UnpackBits _ _ _ hm).mono ?_; rintro e w3 ⟨rfl, hb3⟩
      rw [HO.out, HU.out]
      have B3 := below_next (Nat.le_refl _) B2 hb3
      go_wp2_with fail
      refine (impl_PackBits _ _ _ (by omega)).mono ?_; rintro e w4 ⟨rfl, hb4⟩
      rw [HP.out, HS.out]
      have B4 := below_next (Nat.le_refl _) B3 hb4
      go_wp2_with fail
      go_ret
      exact ⟨rfl, B4⟩
    · have ho : Sx.streamOK o (str l) = false := by simpa using ho
      go_wp2_with fail
      refine (impl_UnpackBits _ _ _ hm).mono ?_; rintro e w2 ⟨rfl, hb2⟩
      have B2 := below_next (Nat.le_refl _) hb hb2
      go_wp2_with fail
      refine (spec_UnpackBits _ _ _ hm).mono ?_; rintro e w3 ⟨rfl, hb3⟩
      have B3 := below_next (Nat.le_refl _) B2 hb3
      go_wp2_with fail
      go_ret
      exact ⟨rfl, B3⟩
  · clear h
    go_enter Try.func11, Try.ntmps11
    go_wp2_with fail
    go_ret
    exact ⟨rfl, Below.refl _ _⟩
end Go.Proofs.Ytkecappciglonaa

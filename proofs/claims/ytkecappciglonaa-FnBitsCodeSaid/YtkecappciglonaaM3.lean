/- The walks of soTurned and FnCodeBits. Conditions: a slice of bytes. -/
import Derived.Test.YtkecappciglonaaDr2
import Derived.Test.YtkecappciglonaaG
namespace Go.Proofs.Ytkecappciglonaa
open Go.RowKit

/-- The first k bytes of a string read backwards. -/
def Sx.revN' (l : List UInt8) (k : Nat) : List UInt8 := l.reverse.take k
theorem Sx.revN_succ (s : ByteArray) (k : Nat) (h : k < s.size) : Sx.revN' s.data.toList (k + 1) = Sx.revN' s.data.toList k ++ [s[s.size - 1 - k]'(by omega)] := by
  unfold Sx.revN'
  rw [Sx.take_snoc' _ k (by rw [List.length_reverse, Sx.len_bytes]; exact h), Sx.rev_get s k h]
theorem Sx.revN_length (s : ByteArray) (k : Nat) (h : k ≤ s.size) : (Sx.revN' s.data.toList k).length = k := by
  unfold Sx.revN'; rw [List.length_take, List.length_reverse, Sx.len_bytes]; omega
theorem Sx.revN_all (s : ByteArray) : Sx.revN' s.data.toList s.size = s.data.toList.reverse := by
  unfold Sx.revN'; exact List.take_of_length_le (by rw [List.length_reverse, Sx.len_bytes]; exact Nat.le_refl _)

set_option maxRecDepth 100000 in
set_option maxHeartbeats 1000000 in
theorem laws_soTurned (s : ByteArray) (w : World) (hs : s.size ≤ 1048576) :
    Calls Try.prog 29 #[.string s] w fun e w' => e = .returned (.string (str s.data.toList.reverse)) ∧ Below w.heap.size w w' := by
  obtain ⟨i0, hi0, hz0, hz1, hz2⟩ := info_parts try_info8
  go_enter Try.func29, Try.ntmps29
  go_wp2_with (at_make; refine wpList_make_own _ rfl (.const (.int .i64 0)) (.tmp 6) 22 rfl w.heap.size 5 i0 (.int .u8 0) 1 Try.underlying22 hi0 hz0 hz1 .i64 .i64 _ s.size rfl rfl rfl (by rw [hz2]; omega) (by simp only [maxLen]; omega) (Nat.le_refl _) ?_; intro w1 hown1 hgrow1)
  have hb1 : Below w.heap.size w w1 := (Below.refl _ _).grown hgrow1 (Nat.le_refl _) (by simp)
  go_loopw [3, 4] (fun v i wr => ∃ k : Nat, k ≤ s.size ∧ i = .int .i64 ((s.size : Int) - 1 - (k : Int)) ∧ wr.ownsRow w.heap.size 5 1 v (Sx.revN' s.data.toList k).length (bvals (Sx.revN' s.data.toList k)) ∧ Below w.heap.size w wr) (fun _ i _ => (intOf i + 1).toNat)
  case atStart => exact ⟨0, Nat.zero_le _, by simp, hown1, hb1⟩
  case round =>
    obtain ⟨k, hk, rfl, hrow, hbw⟩ := hrel
    have hlen : (Sx.revN' s.data.toList k).length ≤ 1048576 := by rw [Sx.revN_length s k hk]; omega
    have hz := hbw.size
    by_cases hlt : k < s.size
    · have hlt2 : s.size - 1 - k < s.size := by omega
      have HP := hide (Sx.revN_succ s k hlt)
      go_wp2_with (at_builtin; refine wpList_append_own _ rfl (.tmp 15) (.tmp 19) _ rfl w.heap.size 5 i0 (.int .u8 0) 1 1 Try.underlying22 hi0 hz0 hz1 hz2 rfl (by decide) _ _ _ rfl (hrow.alloc _) ⟨wr.heap.size, 0, none⟩ 1 1 [.int .u8 (s[s.size - 1 - k].toNat : Int)] rfl rfl (u8_new _ _ _) (by simp [Value.oneCell']) (by simp only [maxLen]; omega) (by omega) (by simp; omega) ?_; intro v' w2 hown' hgrow _)
      go_roundw
      case rel => exact ⟨k + 1, by omega, vint (by omega), by rw [HP.out]; exact own_snoc rfl hown', (hbw.alloc hz _).grown hgrow (by simp; omega) fun g hg => (hrow.lt g hg).1⟩
      case measure => simp [intOf]; omega
    · have hk' : k = s.size := by omega
      have HE := hide (Sx.revN_all s)
      subst hk'
      rw [HE.out] at hrow
      have hcv := run_own_string (P := Try.prog) wr 22 9 5 Try.underlying22 Try.underlying5 Try.underlying9 hrow
      go_wp2_with fail
      go_ret
      exact ⟨rfl, hbw⟩

theorem Sx.two_nat' (D : Nat) : Sx.two D = ((2 ^ D : Nat) : Int) := by unfold Sx.two; rw [Int.toNat_natCast]
theorem Sx.hi_not {o : Int} (h : o = 0 ∨ o = 1) : Sx.hiOf (1 - o) = !(Sx.hiOf o) := by rcases h with rfl | rfl <;> rfl

set_option maxRecDepth 100000 in
set_option maxHeartbeats 1000000 in
theorem law_FnCodeBits (A : Option Addr) (n c : Nat) (w : World) (h : Src w w.heap.size A n) (hc : n ≤ c) (hcm : c ≤ maxLen) :
    Calls Try.prog 5 #[.slice A n c] w fun e w' => e = .returned (.bool true) ∧ Below w.heap.size w w' := by
  by_cases hn : n ≤ 1048576
  · have HD := hide (draw_CodeBits A n c w h hn hc hcm)
    clear h
    go_enter Try.func5, Try.ntmps5
    go_wp2_with fail
    refine (unhide HD).mono ?_; rintro e w1 ⟨o, v, d, rfl, ⟨fo1, fo2⟩, _, _, hb⟩
    clear HD
    by_cases ho : Sx.codeOK o v d = true
    · obtain ⟨oo, d1, d2, v1, v2⟩ := Sx.code_bd ho
      obtain ⟨N, rfl⟩ := Int.eq_ofNat_of_zero_le v1
      obtain ⟨D, rfl⟩ := Int.eq_ofNat_of_zero_le (show 0 ≤ d by omega)
      have v3 := v2
      rw [Sx.two_nat'] at v3
      have hlt : N < 2 ^ D := by exact_mod_cast v3
      have HL := hide (show Sx.cbS o (N : Int) (D : Int) = str (Sx.cbits (Sx.hiOf o) N D) from Sx.code_yes ho)
      have hzz : (str (Sx.cbits (Sx.hiOf o) N D)).size = D := by rw [str_size, Sx.cbits_length]
      have HBV := hide (show Sx.bitsValid (str (Sx.cbits (Sx.hiOf o) N D)) = true by
        simp only [Sx.bitsValid, Bool.and_eq_true, decide_eq_true_iff]; exact ⟨by omega, Sx.cbits_all _ _ _⟩)
      have HO := hide ho
      have ho1 : Sx.ordOK o = true := by simp only [Sx.ordOK, decide_eq_true_iff]; exact oo
      have ho2 : Sx.ordOK (1 - o) = true := by simp only [Sx.ordOK, decide_eq_true_iff]; omega
      have HBC := hide (Sx.bc_mk ho1 HBV.out (by rw [hzz]; omega) (by rw [hzz]; omega))
      have HBN := hide (show Sx.bcN o (str (Sx.cbits (Sx.hiOf o) N D)) = (N : Int) by rw [Sx.bc_yes HBC.out, str_data, Sx.numOf_cbits _ _ _ hlt])
      have HO2 := hide (Sx.code_mk (n := (N : Int)) (wd := (D : Int)) ho2 d1 d2 v1 v2)
      have HOT := hide (show Sx.cbS (1 - o) (N : Int) (D : Int) = str (Sx.cbits (Sx.hiOf o) N D).reverse by
        rw [Sx.code_yes HO2.out]; simp only [Int.toNat_natCast]; rw [Sx.hi_not oo, Sx.cbits_not])
      have hsz : (((str (Sx.cbits (Sx.hiOf o) N D)).size : Int) == (D : Int)) = true := by rw [hzz]; simp
      have hs1 : (str (Sx.cbits (Sx.hiOf o) N D)).size ≤ 10 := by rw [hzz]; omega
      have CT : ∀ wx, Calls Try.prog 29 #[.string (str (Sx.cbits (Sx.hiOf o) N D))] wx fun e w' => e = .returned (.string (str (Sx.cbits (Sx.hiOf o) N D).reverse)) ∧ Below wx.heap.size wx w' := fun wx => laws_soTurned (str (Sx.cbits (Sx.hiOf o) N D)) wx (by omega)
      have CT := hide CT
      have oo1 : 0 ≤ o := by omega
      have oo2 : o ≤ 1 := by omega
      clear ho ho1 ho2 hlt v3 v2 hzz oo
      go_wp2_with fail
      refine (impl_CodeBits _ _ _ _).mono ?_; rintro e w2 ⟨rfl, hb2⟩
      rw [HO.out, HL.out]
      have B2 := below_next (Nat.le_refl _) hb hb2
      go_wp2_with fail
      refine (spec_CodeBits _ _ _ _).mono ?_; rintro e w3 ⟨rfl, hb3⟩
      rw [HO.out, HL.out]
      have B3 := below_next (Nat.le_refl _) B2 hb3
      go_wp2_with fail
      refine (impl_BitsCode _ _ _ (by omega)).mono ?_; rintro e w4 ⟨rfl, rfl⟩
      rw [HBC.out, HBN.out]
      go_wp2_with fail
      refine (impl_CodeBits _ _ _ _).mono ?_; rintro e w5 ⟨rfl, hb5⟩
      rw [HO2.out, HOT.out]
      have B5 := below_next (Nat.le_refl _) B3 hb5
      go_wp2_with fail
      refine (impl_BitsValid _ _ (by omega)).mono ?_; rintro e w6 ⟨rfl, rfl⟩
      rw [HBV.out]
      go_wp2_with fail
      refine (unhide CT _).mono ?_; rintro e w7 ⟨rfl, hb7⟩
      clear CT
      have B7 := below_next (Nat.le_refl _) B5 hb7
      go_wp2_with fail
      go_ret
      exact ⟨rfl, B7⟩
    · have ho : Sx.codeOK o v d = false := by simpa using ho
      go_wp2_with fail
      refine (impl_CodeBits _ _ _ _).mono ?_; rintro e w2 ⟨rfl, hb2⟩
      have B2 := below_next (Nat.le_refl _) hb hb2
      go_wp2_with fail
      refine (spec_CodeBits _ _ _ _).mono ?_; rintro e w3 ⟨rfl, hb3⟩
      have B3 := below_next (Nat.le_refl _) B2 hb3
      go_wp2_with fail
      go_ret
      exact ⟨rfl, B3⟩
  · clear h
    go_enter Try.func5, Try.ntmps5
    go_wp2_with fail
    go_ret
    exact ⟨rfl, Below.refl _ _⟩
end Go.Proofs.Ytkecappciglonaa

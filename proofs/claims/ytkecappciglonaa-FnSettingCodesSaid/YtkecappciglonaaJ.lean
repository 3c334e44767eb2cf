/- The walks of packBytes, PackBits. Conditions: each argument is a value of its type; packBytes takes at most 32000 bits. -/
import Derived.Test.YtkecappciglonaaPpk
import Derived.Test.YtkecappciglonaaG
namespace Go.Proofs.Ytkecappciglonaa
open Go.RowKit

theorem byte_wrap {n : Nat} (h : n < 256) : (n : Int) % 256 = ((UInt8.ofNat n).toNat : Int) := by
  rw [Sx.byte_num h]; omega

set_option maxRecDepth 100000 in
set_option maxHeartbeats 1000000 in
theorem impl_packBytes (o : Int) (s : ByteArray) (w : World) (ho : o = 0 ∨ o = 1) (hs : s.size ≤ 40000) :
    Calls Try.prog 96 #[.int .i64 o, .string s] w fun e w' => e = .returned (.string (str (Sx.packL (Sx.hiOf o) s.data.toList))) ∧ Below w.heap.size w w' := by
  obtain ⟨i0, hi0, hz0, hz1, hz2⟩ := info_parts try_info8
  have hl := hide (Sx.len_bytes s)
  go_enter Try.func96, Try.ntmps96
  go_wp2_with fail
  go_loopw [5, 6, 7, 8, 20] (fun v f _ _ _ wr => ∃ j : Nat, j ≤ (s.size + 7) / 8 ∧ f = .int .i64 (8 * (j : Int)) ∧ wr.ownsRow w.heap.size 5 1 v (Sx.packN (Sx.hiOf o) s.data.toList j).length (bvals (Sx.packN (Sx.hiOf o) s.data.toList j)) ∧ Below w.heap.size w wr) (fun _ f _ _ _ _ => s.size - (intOf f).toNat)
  case atStart => exact ⟨0, Nat.zero_le _, rfl, World.ownsRow_nil w _ _ _, Below.refl _ _⟩
  case round =>
    obtain ⟨j, hj, rfl, hrow, hbw⟩ := hrel
    have hpl : (Sx.packN (Sx.hiOf o) s.data.toList j).length ≤ 10000 := by rw [Sx.packN_length]; omega
    have hz := hbw.size
    by_cases hlt : 8 * j < s.size
    · obtain ⟨wo, rfl⟩ : ∃ wo : World, wo = wr := ⟨_, rfl⟩
      have hltb : decide (8 * (j : Int) < (s.size : Int)) = true := by simp; omega
      go_wp2_with fail
      go_loop [7, 8, 20] (fun b _ i => ∃ k : Nat, k ≤ 8 ∧ 8 * j + k ≤ s.size ∧ i = .int .i64 k ∧ b = .int .i64 (Sx.psum (Sx.hiOf o) (Sx.chunk s.data.toList j) k)) (fun _ _ i => 8 - (intOf i).toNat)
      case atStart => exact ⟨0, by omega, by omega, rfl, by rw [Sx.psum_zero]; rfl⟩
      case round =>
        obtain ⟨k, hk8, hks, rfl, rfl⟩ := hrel
        have hb1 : Sx.psum (Sx.hiOf o) (Sx.chunk s.data.toList j) k < 256 := by
          have := Sx.psum_lt (Sx.hiOf o) (Sx.chunk s.data.toList j) k (by rw [Sx.chunk_length]; exact hk8)
          rw [Sx.chunk_length] at this
          simpa using this
        by_cases hin : k < 8 ∧ 8 * j + k < s.size
        · obtain ⟨hi1, hi2⟩ := hin
          have hd : decide ((k : Int) < min 8 ((s.size : Int) - 8 * (j : Int))) = true := by simp; omega
          have hcl : k < (Sx.chunk s.data.toList j).length := by rw [Sx.chunk_length]; exact hi1
          have hcg := hide (show (Sx.chunk s.data.toList j)[k] = s[8 * j + k] from Sx.chunk_get hi1 (by rw [hl.out]; exact hi2))
          by_cases h49 : (s[8 * j + k].toNat : Int) = 49
          · have HS := hide (Sx.psum_one (hi := Sx.hiOf o) hcl (by rw [hcg.out]; exact Sx.is49 h49))
            have HP := hide (show Sx.plc o k 8 = _ from Sx.plc_nat (o := o) ho (k := k) (wd := 8) hi1)
            have ht := beq_true h49
            have htl := Sx.two_lit (l := Sx.plc o k 8) (by rw [HP.out]; split <;> omega)
            have htp := Sx.two_pos (Sx.plc o k 8)
            clear h49
            go_wp2_with (go_at_call 106; refine (impl_place _ _ _ _ ho (by omega) (by omega) (by omega)).mono ?_; rintro e w' ⟨rfl, rfl⟩)
            go_round
            case rel =>
              refine ⟨k + 1, by omega, by omega, by go_num, vint ?_⟩
              rw [HS.out, HP.out, Sx.chunk_length]
              unfold Sx.two
              rw [Int.toNat_natCast, Int.natCast_add]
            case measure => simp [intOf]; omega
          · have HS := hide (Sx.psum_other (hi := Sx.hiOf o) hcl (by rw [hcg.out]; exact Sx.not49 h49))
            have ht := beq_false h49
            clear h49
            go_wp2_with fail
            go_round
            case rel => exact ⟨k + 1, by omega, by omega, by go_num, vint (by rw [HS.out])⟩
            case measure => simp [intOf]; omega
        · have HN := hide (show Sx.psum (Sx.hiOf o) (Sx.chunk s.data.toList j) k = Sx.numOf (Sx.hiOf o) (Sx.chunk s.data.toList j) from Sx.psum_num _ _ _ _ hk8 (by rw [hl.out]; omega))
          have HP := hide (Sx.packN_succ (Sx.hiOf o) s.data.toList j)
          have hd : decide ((k : Int) < min 8 ((s.size : Int) - 8 * (j : Int))) = false := by simp; omega
          go_wp2_with (at_builtin; refine wpList_append_own _ rfl (.tmp 35) (.tmp 38) _ rfl w.heap.size 5 i0 (.int .u8 0) 1 1 Try.underlying22 hi0 hz0 hz1 hz2 rfl (by decide) _ _ _ rfl (hrow.alloc _) ⟨wo.heap.size, 0, none⟩ 1 1 [.int .u8 (Sx.psum (Sx.hiOf o) (Sx.chunk s.data.toList j) k : Int)] rfl rfl (u8_new _ _ _) (by simp [Value.oneCell']) (by simp only [maxLen]; omega) (by omega) (by simp; omega) ?_; intro v' w1 hown' hgrow _)
          go_roundw
          case rel =>
            refine ⟨j + 1, by omega, by go_num, ?_, (hbw.alloc hbw.size _).grown hgrow (by simp; omega) fun g hg => (hrow.lt g hg).1⟩
            rw [HP.out, ← HN.out]
            exact own_snoc (Sx.byte_num hb1).symm hown'
          case measure => simp [intOf]; omega
    · have he : j = (s.size + 7) / 8 := by omega
      have hcv := run_own_string (P := Try.prog) wr 22 9 5 Try.underlying22 Try.underlying5 Try.underlying9 hrow
      have HE := hide (show Sx.packL (Sx.hiOf o) s.data.toList = Sx.packN (Sx.hiOf o) s.data.toList j by rw [Sx.packL, hl.out, he])
      clear he
      go_wp2_with fail
      go_ret
      exact ⟨ret_str (by rw [HE.out]), hbw⟩
end Go.Proofs.Ytkecappciglonaa

/- The walk of TurnBytes of the program. Conditions: a value of its type. -/
import Derived.Test.YtkecappciglonaaN
namespace Go.Proofs.Ytkecappciglonaa
open Go.RowKit

theorem rev8_size : Lib.rev8tab.size = 256 := by decide +kernel
theorem rev8_tab : ∀ n : Fin 256, (Lib.rev8tab[n.val]'(by rw [rev8_size]; exact n.isLt)) = Sx.rev8 (UInt8.ofNat n.val) := by decide +kernel
theorem rev8_at (b : UInt8) (h : b.toNat < Lib.rev8tab.size) : Lib.rev8tab[b.toNat] = Sx.rev8 b := by
  have := rev8_tab ⟨b.toNat, b.toNat_lt⟩
  simpa using this

set_option maxRecDepth 100000 in
set_option maxHeartbeats 1000000 in
theorem bits_Reverse8 (b : UInt8) (w : World) :
    Calls Try.prog 97 #[.int .u8 (b.toNat : Int)] w fun e w' => e = .returned (.int .u8 ((Sx.rev8 b).toNat : Int)) ∧ w = w' := by
  have hb : b.toNat < Lib.rev8tab.size := by rw [rev8_size]; exact b.toNat_lt
  have HR := hide (rev8_at b hb)
  go_enter Try.func97, Try.ntmps97
  go_wp2
  go_ret
  exact ⟨ret_int (by rw [HR.out]), rfl⟩

set_option maxRecDepth 100000 in
set_option maxHeartbeats 1000000 in
theorem impl_TurnBytes (s : ByteArray) (w : World) (hm : s.size ≤ 9223372036854775807) :
    Calls Try.prog 54 #[.string s] w fun e w' => e = .returned (.tuple #[.string (Sx.turnS s), .bool (decide (s.size ≤ 4000))]) ∧ Below w.heap.size w w' := by
  by_cases h1 : s.size ≤ 4000
  · obtain ⟨i0, hi0, hz0, hz1, hz2⟩ := info_parts try_info8
    have hl := hide (Sx.len_bytes s)
    have hy := hide (Sx.turn_yes h1)
    have hdd := hide (show decide (s.size ≤ 4000) = true from decide_eq_true h1)
    go_enter Try.func54, Try.ntmps54
    go_wp2_with (at_make; refine wpList_make_full _ rfl (.tmp 10) (.tmp 10) 22 rfl w.heap.size 5 i0 (.int .u8 0) 1 Try.underlying22 hi0 hz0 hz1 .i64 .i64 _ _ s.size rfl rfl rfl rfl (by rw [hz2]; omega) (by simp only [maxLen]; omega) (Nat.le_refl _) ?_; intro w1 hown1 hgrow1)
    rw [bvals_zero] at hown1
    have hb1 : Below w.heap.size w w1 := (Below.refl _ _).grown hgrow1 (Nat.le_refl _) (by simp)
    go_loopw [5, 14] (fun _ i wr => ∃ k : Nat, k ≤ s.size ∧ i = .int .i64 k ∧ wr.ownsRow w.heap.size 5 1 (.slice (some ⟨w.heap.size, 0, none⟩) s.size s.size) s.size (bvals ((s.data.toList.take k).map Sx.rev8 ++ List.replicate (s.size - k) 0)) ∧ Below w.heap.size w wr) (fun _ i _ => s.size - (intOf i).toNat)
    case atStart => exact ⟨0, Nat.zero_le _, rfl, hown1, hb1⟩
    case round =>
      obtain ⟨k, hk, rfl, hrow, hbw⟩ := hrel
      by_cases hlt : k < s.size
      · have HR := hide (show s.size - k = (s.size - (k + 1)) + 1 by omega)
        have HK := hide (show ((s.data.toList.take k).map Sx.rev8).length = k by rw [List.length_map, List.length_take, hl.out]; omega)
        rw [HR.out] at hrow
        have hcell : wr.cell? ⟨w.heap.size, k, none⟩ = some (.int .u8 0) := by
          rw [hrow.cellAt k (by omega)]
          have := bvals_get ((s.data.toList.take k).map Sx.rev8) (s.size - (k + 1))
          rwa [HK.out] at this
        have hfroz : wr.frozen? ⟨w.heap.size, k, none⟩ = false := hrow.frozenAt k
        have hst := hide (hrow.stored k (.int .u8 ((Sx.rev8 s[k]).toNat : Int)))
        have HP := hide (show (s.data.toList.take (k + 1)).map Sx.rev8 = (s.data.toList.take k).map Sx.rev8 ++ [Sx.rev8 s[k]] by rw [Sx.take_snoc s k hlt, List.map_append]; rfl)
        go_wp2_with (go_at_call 97; refine (bits_Reverse8 _ _).mono ?_; rintro e w' ⟨rfl, rfl⟩)
        go_roundw
        case rel =>
          refine ⟨k + 1, by omega, by go_num, ?_, hbw.setCell (Nat.le_refl _) _⟩
          rw [HP.out]
          exact row_step HK.out rfl hst.out.1
        case measure => simp [intOf]; omega
      · have HE := hide (show (s.data.toList.take k).map Sx.rev8 ++ List.replicate (s.size - k) 0 = s.data.toList.map Sx.rev8 by
          have hk' : k = s.size := by omega
          rw [hk', Nat.sub_self, List.take_of_length_le (by rw [hl.out]; exact Nat.le_refl _)]; simp)
        have HS := hide (show s.size = (s.data.toList.map Sx.rev8).length by rw [List.length_map, hl.out])
        rw [HE.out] at hrow
        have hcv := run_own_string (P := Try.prog) wr 22 9 5 Try.underlying22 Try.underlying5 Try.underlying9 hrow
        go_wp2_with fail
        go_ret2
        exact ⟨ret2 (vstr hy.out.symm) (vbool hdd.out.symm), hbw⟩
  · have hy := hide (Sx.turn_no h1)
    have hdd := hide (show decide (s.size ≤ 4000) = false from decide_eq_false h1)
    go_enter Try.func54, Try.ntmps54
    go_wp2_with fail
    go_ret2
    exact ⟨ret2 (vstr hy.out.symm) (vbool hdd.out.symm), Below.refl _ _⟩
end Go.Proofs.Ytkecappciglonaa

/- The walks of FormatHex and ParseHex. Conditions: a string of at most 1048576 bytes where a slice is made ahead of the test of its length. -/
import Derived.Test.YtkecappciglonaaPhex
import Derived.Test.YtkecappciglonaaF
import Derived.Test.YtkecappciglonaaShelf
import Derived.Deep.RegionHeld3
import Derived.Deep.AppendLies
import Derived.StillTactics
namespace Go.Proofs.Ytkecappciglonaa
open Go.RowKit

theorem idx_byte (s : ByteArray) (b : UInt8) (w : World) :
    Calls Try.prog 91 #[.string s, .int .u8 (b.toNat : Int)] w fun e w' => e = .returned (.int .i64 (Lib.indexByte s.data.toList b)) ∧ w = w' := by
  refine (Try.strings_IndexByte s (b.toNat : Int) w).mono ?_
  rintro e w' ⟨rfl, rfl⟩
  exact ⟨by simp, rfl⟩

theorem Sx.index_cons (l : List UInt8) (c : UInt8) (k : Nat) (h : ∀ j (hj : j < l.length), j < k → l[j] ≠ c) : ∀ (_hk : k ≤ l.length), Lib.indexByte l c = (if Lib.indexByte (l.drop k) c = -1 then -1 else Lib.indexByte (l.drop k) c + k) := by
  induction k with
  | zero => intro _; simp
            try (intro h; rw [h])
  | succ k ih =>
    intro hk
    rw [ih (fun j hj hjk => h j hj (by omega)) (by omega)]
    have hlt : k < l.length := by omega
    have hd : l.drop k = l[k] :: l.drop (k + 1) := List.drop_eq_getElem_cons hlt
    have hne : (l[k] == c) = false := by simpa using h k hlt (by omega)
    rw [hd, Lib.indexByte, hne]
    have := Lib.indexByte_ge (l.drop (k + 1)) c
    by_cases h1 : Lib.indexByte (l.drop (k + 1)) c = -1
    · simp [h1]
    · have h2 : (Lib.indexByte (l.drop (k + 1)) c == -1) = false := by simpa using h1
      rw [h2]
      simp only [Bool.false_eq_true, if_false]
      rw [if_neg (by omega), if_neg h1]
      omega

set_option maxRecDepth 100000 in
set_option maxHeartbeats 1000000 in
theorem spec_l9Find (s : ByteArray) (b : UInt8) (w : World) (hs : s.size ≤ 9223372036854775807) :
    Calls Try.prog 93 #[.string s, .int .u8 (b.toNat : Int)] w fun e w' => e = .returned (.int .i64 (Lib.indexByte s.data.toList b)) ∧ w = w' := by
  have hl := hide (Sx.len_bytes s)
  go_enter Try.func93, Try.ntmps93
  go_wp2_with fail
  go_loop [5] (fun i => ∃ k : Nat, k ≤ s.size ∧ i = .int .i64 k ∧ Hid (∀ j (hj : j < s.data.toList.length), j < k → s.data.toList[j] ≠ b)) (fun i => s.size - (intOf i).toNat)
  case atStart => exact ⟨0, Nat.zero_le _, rfl, fun j _ h => absurd h (by omega)⟩
  case round =>
    obtain ⟨k, hk, rfl, hall⟩ := hrel
    have HI := hide (Sx.index_cons s.data.toList b k hall.out (by rw [hl.out]; exact hk))
    by_cases hlt : k < s.size
    · have hdr := hide (show s.data.toList.drop k = s[k] :: s.data.toList.drop (k + 1) from List.drop_eq_getElem_cons (by rw [hl.out]; exact hlt))
      by_cases he : s[k] = b
      · have ht : ((s[k].toNat : Int) == (b.toNat : Int)) = true := by rw [he]; simp
        have HV := hide (show Lib.indexByte s.data.toList b = k by rw [HI.out, hdr.out, Lib.indexByte]; simp [he])
        clear he
        go_wp2_with fail
        go_ret
        exact ⟨ret_int HV.out.symm, rfl⟩
      · have ht : ((s[k].toNat : Int) == (b.toNat : Int)) = false := by
          rw [beq_eq_false_iff_ne]; intro h; exact he (UInt8.toNat_inj.1 (by omega))
        have HN := hide (show ∀ j (hj : j < s.data.toList.length), j < k + 1 → s.data.toList[j] ≠ b from fun j hj hjk => by
          by_cases h : j < k
          · exact hall.out j hj h
          · have : j = k := by omega
            subst this; exact he)
        clear he
        go_wp2_with fail
        go_round
        case rel => exact ⟨k + 1, by omega, by go_num, HN⟩
        case measure => simp [intOf]; omega
    · have HV := hide (show Lib.indexByte s.data.toList b = -1 by
        rw [HI.out, List.drop_eq_nil_of_le (by rw [hl.out]; omega)]; rfl)
      go_wp2_with fail
      go_ret
      exact ⟨ret_int HV.out.symm, rfl⟩

/-- The digits' own string. -/
def hexS : ByteArray := { data := #[48, 49, 50, 51, 52, 53, 54, 55, 56, 57, 97, 98, 99, 100, 101, 102] }
theorem hexS_at (n : Nat) (h : n < 16) : (({ data := #[48, 49, 50, 51, 52, 53, 54, 55, 56, 57, 97, 98, 99, 100, 101, 102] } : ByteArray)[n]'h) = Sx.hexd n := by
  have : ∀ k : Fin 16, (({ data := #[48, 49, 50, 51, 52, 53, 54, 55, 56, 57, 97, 98, 99, 100, 101, 102] } : ByteArray)[k.val]'k.isLt) = Sx.hexd k.val := by decide
  exact this ⟨n, h⟩

theorem and15_all : ∀ n : Fin 256, bits .and .u8 (n.val : Int) 15 = ((n.val % 16 : Nat) : Int) := by decide +kernel
theorem and15 (b : UInt8) : bits .and .u8 (b.toNat : Int) 15 = ((b.toNat % 16 : Nat) : Int) := and15_all ⟨b.toNat, b.toNat_lt⟩

set_option maxRecDepth 100000 in
set_option maxHeartbeats 1000000 in
theorem impl_FormatHex (s : ByteArray) (w : World) (hs : s.size ≤ 9223372036854775807) :
    Calls Try.prog 43 #[.string s] w fun e w' => e = .returned (.string (Sx.fhexS s)) ∧ Below w.heap.size w w' := by
  by_cases hm : s.size ≤ 4000
  · have hr := hide (Sx.fhexS_yes hm)
    obtain ⟨i0, hi0, hz0, hz1, hz2⟩ := info_parts try_info8
    go_enter Try.func43, Try.ntmps43
    go_wp2_with (at_make; refine wpList_make_own _ rfl (.const (.int .i64 0)) (.tmp 10) 22 rfl w.heap.size 5 i0 (.int .u8 0) 1 Try.underlying22 hi0 hz0 hz1 .i64 .i64 _ (2 * s.size) rfl rfl (by omega) (by rw [hz2]; omega) (by simp only [maxLen]; omega) (Nat.le_refl _) ?_; intro w1 hown1 hgrow1)
    have hb1 : Below w.heap.size w w1 := (Below.refl _ _).grown hgrow1 (Nat.le_refl _) (by simp)
    go_loopw [3, 4, 14] (fun v _ i wr => ∃ k : Nat, k ≤ s.size ∧ i = .int .i64 k ∧ wr.ownsRow w.heap.size 5 1 v (Sx.fhex (s.data.toList.take k)).length (bvals (Sx.fhex (s.data.toList.take k))) ∧ Below w.heap.size w wr) (fun _ _ i _ => s.size - (intOf i).toNat)
    case atStart => exact ⟨0, Nat.zero_le _, rfl, hown1, hb1⟩
    case round =>
      obtain ⟨k, hk, rfl, hrow, hbw⟩ := hrel
      by_cases hlt : k < s.size
      · have hlen : (Sx.fhex (s.data.toList.take k)).length ≤ 8000 := by rw [Sx.fhex_length, List.length_take]; omega
        have hbyte := s[k].toNat_lt
        have hz := hbw.size
        have HP := hide (Sx.fhex_snoc s k hlt)
        have k0 : (0 : Int) ≤ (k : Int) := Int.natCast_nonneg _
        have k1 : (k : Int) < (s.size : Int) := by omega
        have q0 : (0 : Int) ≤ (s[k].toNat : Int) / 16 := by omega
        have q1 : (s[k].toNat : Int) / 16 < 16 := by omega
        have qn : ((s[k].toNat : Int) / 16).toNat = s[k].toNat / 16 := by omega
        have ra := and15 s[k]
        have p0 : (0 : Int) ≤ (s[k].toNat : Int) % 16 := by omega
        have p1 : (s[k].toNat : Int) % 16 < 16 := by omega
        have pn : ((s[k].toNat : Int) % 16).toNat = s[k].toNat % 16 := by omega
        have r1 : s[k].toNat % 16 < 16 := by omega
        have q2 : s[k].toNat / 16 < 16 := by omega
        have g1 := hexS_at (s[k].toNat / 16) q2
        have g2 := hexS_at (s[k].toNat % 16) r1
        go_wp2_with fail
        go_region_held3 (fun _ => True) (trivial)
          ((refine step_append_lies _ (by rfl) _ _ _ (by rfl) w.heap.size 5 i0 (.int .u8 0) 1 1 Try.underlying22 hi0 hz0 hz1 hz2 rfl (by omega) _ _ _ (by rfl) ((hrow.alloc _).drew)
                ⟨wr.heap.size, 0, none⟩ 2 2 (bvals [Sx.hexd (s[k].toNat / 16), Sx.hexd (s[k].toNat % 16)]) (by rfl) (by rfl) (World.news_of_block (cs := #[.int .u8 (Sx.hexd (s[k].toNat / 16)).toNat, .int .u8 (Sx.hexd (s[k].toNat % 16)).toNat]) (t := 5) (fr := (0, 0)) (heap_alloc_new wr _)) (bvals_oneCell _)
                (by omega) (by simp only [maxLen]; omega) (by omega) (by simp; omega) (wr.heap.size + 1) (by simp) ?_; intro gg cap w2 hown2 hgrow2 hat2 hlt2))
        all_goals
          go_wp2
          go_roundw
          case rel => exact ⟨k + 1, by omega, by go_num, by rw [HP.out, List.length_append, bvals_append]; exact hown2, (hbw.alloc hz _).drew.grown hgrow2 (by simp; omega) fun g hg => (hrow.lt g hg).1⟩
          case measure => simp [intOf]; omega
      · have ht : s.data.toList.take k = s.data.toList := List.take_of_length_le (by rw [Sx.len_bytes]; omega)
        rw [ht] at hrow
        have hcv := run_own_string (P := Try.prog) wr 22 9 5 Try.underlying22 Try.underlying5 Try.underlying9 hrow
        clear ht
        go_wp2_with fail
        go_ret
        exact ⟨ret_str hr.out.symm, hbw⟩
  · have hr := hide (Sx.fhexS_no hm)
    go_enter Try.func43, Try.ntmps43
    go_wp2_with fail
    go_ret
    exact ⟨ret_str hr.out.symm, Below.refl _ _⟩
set_option maxRecDepth 100000 in
set_option maxHeartbeats 1000000 in
theorem spec_FormatHex (s : ByteArray) (w : World) (hs : s.size ≤ 1048576) :
    Calls Try.prog 44 #[.string s] w fun e w' => e = .returned (.string (Sx.fhexS s)) ∧ Below w.heap.size w w' := by
  by_cases hm : s.size ≤ 4000
  · have hr := hide (Sx.fhexS_yes hm)
    obtain ⟨i0, hi0, hz0, hz1, hz2⟩ := info_parts try_info8
    go_enter Try.func44, Try.ntmps44
    go_wp2_with (at_make; refine wpList_make_own _ rfl (.const (.int .i64 0)) (.tmp 8) 22 rfl w.heap.size 5 i0 (.int .u8 0) 1 Try.underlying22 hi0 hz0 hz1 .i64 .i64 _ (2 * s.size) rfl rfl (by omega) (by rw [hz2]; omega) (by simp only [maxLen]; omega) (Nat.le_refl _) ?_; intro w1 hown1 hgrow1)
    have hb1 : Below w.heap.size w w1 := (Below.refl _ _).grown hgrow1 (Nat.le_refl _) (by simp)
    go_loopw [4, 5] (fun v i wr => ∃ k : Nat, k ≤ s.size ∧ i = .int .i64 k ∧ wr.ownsRow w.heap.size 5 1 v (Sx.fhex (s.data.toList.take k)).length (bvals (Sx.fhex (s.data.toList.take k))) ∧ Below w.heap.size w wr) (fun _ i _ => s.size - (intOf i).toNat)
    case atStart => exact ⟨0, Nat.zero_le _, rfl, hown1, hb1⟩
    case round =>
      obtain ⟨k, hk, rfl, hrow, hbw⟩ := hrel
      by_cases hlt : k < s.size
      · have hlen : (Sx.fhex (s.data.toList.take k)).length ≤ 8000 := by rw [Sx.fhex_length, List.length_take]; omega
        have hbyte := s[k].toNat_lt
        have hz := hbw.size
        have HP := hide (Sx.fhex_snoc s k hlt)
        have k0 : (0 : Int) ≤ (k : Int) := Int.natCast_nonneg _
        have k1 : (k : Int) < (s.size : Int) := by omega
        have q0 : (0 : Int) ≤ (s[k].toNat : Int) / 16 := by omega
        have q1 : (s[k].toNat : Int) / 16 < 16 := by omega
        have qn : ((s[k].toNat : Int) / 16).toNat = s[k].toNat / 16 := by omega
        have x0 : (0 : Int) ≤ (s[k].toNat : Int) := Int.natCast_nonneg _
        have d1 : (s[k].toNat : Int).tdiv 16 = (s[k].toNat : Int) / 16 := Int.tdiv_eq_ediv_of_nonneg x0
        have d2 : (s[k].toNat : Int).tmod 16 = (s[k].toNat : Int) % 16 := Int.tmod_eq_emod_of_nonneg x0
        have d3 : IntKind.u8.wrap ((s[k].toNat : Int) / 16) = (s[k].toNat : Int) / 16 := by rw [IntKind.wrap_u8]; omega
        have d4 : IntKind.u8.wrap ((s[k].toNat : Int) % 16) = (s[k].toNat : Int) % 16 := by rw [IntKind.wrap_u8]; omega
        have p0 : (0 : Int) ≤ (s[k].toNat : Int) % 16 := by omega
        have p1 : (s[k].toNat : Int) % 16 < 16 := by omega
        have pn : ((s[k].toNat : Int) % 16).toNat = s[k].toNat % 16 := by omega
        have r1 : s[k].toNat % 16 < 16 := by omega
        have q2 : s[k].toNat / 16 < 16 := by omega
        have g1 := hexS_at (s[k].toNat / 16) q2
        have g2 := hexS_at (s[k].toNat % 16) r1
        go_wp2_with fail
        go_region_held3 (fun _ => True) (trivial)
          ((refine step_append_lies _ (by rfl) _ _ _ (by rfl) w.heap.size 5 i0 (.int .u8 0) 1 1 Try.underlying22 hi0 hz0 hz1 hz2 rfl (by omega) _ _ _ (by rfl) ((hrow.alloc _).drew)
                ⟨wr.heap.size, 0, none⟩ 2 2 (bvals [Sx.hexd (s[k].toNat / 16), Sx.hexd (s[k].toNat % 16)]) (by rfl) (by rfl) (World.news_of_block (cs := #[.int .u8 (Sx.hexd (s[k].toNat / 16)).toNat, .int .u8 (Sx.hexd (s[k].toNat % 16)).toNat]) (t := 5) (fr := (0, 0)) (heap_alloc_new wr _)) (bvals_oneCell _)
                (by omega) (by simp only [maxLen]; omega) (by omega) (by simp; omega) (wr.heap.size + 1) (by simp) ?_; intro gg cap w2 hown2 hgrow2 hat2 hlt2))
        all_goals
          go_wp2
          go_roundw
          case rel => exact ⟨k + 1, by omega, by go_num, by rw [HP.out, List.length_append, bvals_append]; exact hown2, (hbw.alloc hz _).drew.grown hgrow2 (by simp; omega) fun g hg => (hrow.lt g hg).1⟩
          case measure => simp [intOf]; omega
      · have ht : s.data.toList.take k = s.data.toList := List.take_of_length_le (by rw [Sx.len_bytes]; omega)
        rw [ht] at hrow
        have hcv := run_own_string (P := Try.prog) wr 22 9 5 Try.underlying22 Try.underlying5 Try.underlying9 hrow
        clear ht
        go_wp2_with fail
        go_ret
        exact ⟨ret_str hr.out.symm, hbw⟩
  · have hr := hide (Sx.fhexS_no hm)
    obtain ⟨i0, hi0, hz0, hz1, hz2⟩ := info_parts try_info8
    go_enter Try.func44, Try.ntmps44
    go_wp2_with (at_make; refine wpList_make_own _ rfl (.const (.int .i64 0)) (.tmp 8) 22 rfl w.heap.size 5 i0 (.int .u8 0) 1 Try.underlying22 hi0 hz0 hz1 .i64 .i64 _ (2 * s.size) rfl rfl (by omega) (by rw [hz2]; omega) (by simp only [maxLen]; omega) (Nat.le_refl _) ?_; intro w1 hown1 hgrow1)
    have hb1 : Below w.heap.size w w1 := (Below.refl _ _).grown hgrow1 (Nat.le_refl _) (by simp)
    go_ret
    exact ⟨ret_str hr.out.symm, hb1⟩
end Go.Proofs.Ytkecappciglonaa

/- The walks of slices.Reverse on bytes and of the words of codes, of the program. Conditions: pairs that can be known, a code that has a word. -/
import Derived.Test.YtegfcpdkehgdpaaW1
namespace Go.Proofs.Ytegfcpdkehgdpaa
open Go.RowKit

set_option maxRecDepth 100000 in
set_option maxHeartbeats 4000000 in
theorem slices_Reverse (base g cp : Nat) (TT : List UInt8) (w : World) (hown : w.ownsRow base 5 1 (.slice (some ⟨g, 0, none⟩) TT.length cp) TT.length (bvals TT)) (hz : TT.length ≤ 1000000) :
    Calls Try.prog 103 #[.slice (some ⟨g, 0, none⟩) TT.length cp] w fun e w' => e = .returned (.tuple #[]) ∧ w'.ownsRow base 5 1 (.slice (some ⟨g, 0, none⟩) TT.length cp) TT.length (bvals TT.reverse) ∧ w.grownBy w' (some g) := by
  rw [← Sx.swp_zero TT, Sx.swp_length] at hown
  have hr0 := Sx.swp_zero TT
  go_enter Try.func103, Try.ntmps103
  go_wp2_with fail
  go_loopw [2, 3] (fun i j wr => ∃ k : Nat, 2 * k ≤ TT.length + 1 ∧ i = .int .i64 k ∧ j = .int .i64 ((TT.length : Int) - 1 - (k : Int)) ∧ wr.ownsRow base 5 1 (.slice (some ⟨g, 0, none⟩) TT.length cp) TT.length (bvals (Sx.swp TT k)) ∧ w.grownBy wr (some g)) (fun i _ _ => TT.length + 1 - (intOf i).toNat)
  case atStart => exact ⟨0, by omega, rfl, by simp, hown, World.grownBy.refl _ _⟩
  case round =>
    obtain ⟨k, hk, rfl, rfl, hrow, hG⟩ := hrel
    by_cases hlt2 : 2 * k + 1 < TT.length
    · have HS := Sx.swp_step hlt2
      have hn2 := Sx.swp_length TT k
      obtain ⟨a, ha⟩ : ∃ a, a = (Sx.swp TT k).getD k 0 := ⟨_, rfl⟩
      obtain ⟨d, hd⟩ : ∃ d, d = (Sx.swp TT k).getD (TT.length - 1 - k) 0 := ⟨_, rfl⟩
      have y0 : wr.cell? ⟨g, k, none⟩ = some (.int .u8 (a.toNat : Int)) := (hrow.cellAt k (by omega)).trans (by rw [ha]; exact bvals_getD _ k (by omega))
      have y1 : wr.cell? ⟨g, TT.length - 1 - k, none⟩ = some (.int .u8 (d.toNat : Int)) := (hrow.cellAt (TT.length - 1 - k) (by omega)).trans (by rw [hd]; exact bvals_getD _ _ (by omega))
      have f0 := hrow.frozenAt k
      have f1 := hrow.frozenAt (TT.length - 1 - k)
      have hne : k ≠ TT.length - 1 - k := by omega
      have hne2 : TT.length - 1 - k ≠ k := by omega
      have hsA := ((hrow.stored k (.int .u8 (d.toNat : Int))).1.stored (TT.length - 1 - k) (.int .u8 (a.toNat : Int))).1
      have hsB := ((hrow.stored (TT.length - 1 - k) (.int .u8 (a.toNat : Int))).1.stored k (.int .u8 (d.toNat : Int))).1
      rw [← ha, ← hd] at HS
      rw [bvals_set_at, bvals_set_at] at hsA hsB
      rw [List.set_comm _ _ hne2] at hsB
      rw [HS] at hsA hsB
      have hsA := hide hsA
      have hsB := hide hsB
      have i0 : (0 : Int) ≤ (k : Int) := Int.natCast_nonneg _
      have i1 : (k : Int) < (TT.length : Int) := by omega
      have j0 : (0 : Int) ≤ (TT.length : Int) - 1 - (k : Int) := by omega
      have j1 : (TT.length : Int) - 1 - (k : Int) < (TT.length : Int) := by omega
      have jn : ((TT.length : Int) - 1 - (k : Int)).toNat = TT.length - 1 - k := by omega
      clear ha hd hrow hn2 HS hr0
      go_wp2_with fail
      go_region
      all_goals
        go_wp2
        go_roundw
        case rel => exact ⟨k + 1, by omega, by go_num, vintK (by omega), (by first | exact hsA.out.drew | exact hsB.out.drew), only_drew (only_setCell (only_setCell hG (p := ⟨g, _, none⟩) (.inl rfl) _) (p := ⟨g, _, none⟩) (.inl rfl) _)⟩
        case measure => simp [intOf]; omega
    · have HR := hide (Sx.swp_end (L := TT) (k := k) (by omega))
      rw [HR.out] at hrow
      go_wp2_with fail
      first | go_end0 | refine bodyPost_ret (results_none rfl _ _ _) rfl ?_
      exact ⟨rfl, hrow, hG⟩

set_option maxRecDepth 100000 in
set_option maxHeartbeats 4000000 in
theorem impl_word (o l m : Int) (A : Option Addr) (c : Nat) (b t x : Int) (ps : List (Int × Int)) (w : World) (hr : PR w w.heap.size A ps) (h0 : Sx.setOK o l m = true) (hz : ps.length ≤ 1024) (hp : Sx.pairsOK l ps ps.length = true) (hx : Sx.codeB l ps.length x = true) :
    Calls Try.prog 63 #[kv o l m A ps.length c b t, .int .i64 x] w fun e w' => e = .returned (.string (str (Sx.word l ps x))) ∧ Below w.heap.size w w' := by
  obtain ⟨i0, hi0, hz0, hz1, hz2⟩ := info_parts infoU8
  have hbd := Sx.setOK_bd h0
  have t1 := Sx.two_pos l
  have t2 : Sx.two l ≤ 256 := Sx.two_le 8 (by omega)
  have CN := hide (fun wx => impl_nextWord o l m A ps.length c b t wx h0 (by omega))
  have CE := hide (fun wx => by have := impl_EndCode o l m wx; rwa [Sx.end_yes h0] at this)
  have hxc := Sx.codeB_of hx
  have xn : (x == Sx.two l + 2 + (ps.length : Int)) = false := by rw [beq_eq_false_iff_ne]; omega
  have kb := Blk.new w 31 #[.int .i64 o, .int .i64 l, .int .i64 m, .slice A ps.length c, .int .i64 b, .int .i64 t]
  have s0 : Below w.heap.size w ((w.alloc (.cells #[.int .i64 o, .int .i64 l, .int .i64 m, .slice A ps.length c, .int .i64 b, .int .i64 t] 31))) ∧ ((w.alloc (.cells #[.int .i64 o, .int .i64 l, .int .i64 m, .slice A ps.length c, .int .i64 b, .int .i64 t] 31))).cell? ⟨w.heap.size, 0, none⟩ = some (.int .i64 o) ∧ ((w.alloc (.cells #[.int .i64 o, .int .i64 l, .int .i64 m, .slice A ps.length c, .int .i64 b, .int .i64 t] 31))).cell? ⟨w.heap.size, 1, none⟩ = some (.int .i64 l) ∧ ((w.alloc (.cells #[.int .i64 o, .int .i64 l, .int .i64 m, .slice A ps.length c, .int .i64 b, .int .i64 t] 31))).cell? ⟨w.heap.size, 2, none⟩ = some (.int .i64 m) ∧ ((w.alloc (.cells #[.int .i64 o, .int .i64 l, .int .i64 m, .slice A ps.length c, .int .i64 b, .int .i64 t] 31))).cell? ⟨w.heap.size, 3, none⟩ = some (.slice A ps.length c) ∧ ((w.alloc (.cells #[.int .i64 o, .int .i64 l, .int .i64 m, .slice A ps.length c, .int .i64 b, .int .i64 t] 31))).cell? ⟨w.heap.size, 4, none⟩ = some (.int .i64 b) ∧ ((w.alloc (.cells #[.int .i64 o, .int .i64 l, .int .i64 m, .slice A ps.length c, .int .i64 b, .int .i64 t] 31))).cell? ⟨w.heap.size, 5, none⟩ = some (.int .i64 t) := ⟨((Below.refl _ _).alloc (Nat.le_refl _) _), kb.cell 0, kb.cell 1, kb.cell 2, kb.cell 3, kb.cell 4, kb.cell 5⟩
  clear kb
  go_enter Try.func63, Try.ntmps63
  go_wp2_with fail
  refine ((unhide CN) _).mono ?_; rintro e w1 ⟨rfl, hb1⟩
  have s1 := keep6 hb1 s0
  clear s0 hb1 CN
  obtain ⟨hB, c0, c1, c2, c3, c4, c5⟩ := s1
  go_wp2_with fail
  refine ((unhide CE) _).mono ?_; rintro e w2 ⟨rfl, hb2⟩
  have s2 := keep6 hb2 ⟨hB, c0, c1, c2, c3, c4, c5⟩
  have hs2 : w.heap.size + 1 ≤ w2.heap.size := World.block_lt_of_cell? w2 _ s2.2.1
  clear hB c0 c1 c2 c3 c4 c5 hb2 CE
  go_wp2_with fail
  go_loopw [1, 7, 8] (fun cc u _ wr => ∃ (y : Int) (f : Nat) (L : List UInt8), cc = .int .i64 y ∧ Hid (Sx.codeB l ps.length y = true) ∧ Hid (y ≤ Sx.two l + 1 + (f : Int) ∧ L.length + f = ps.length ∧ L ++ Sx.wrev l ps f y = Sx.wrev l ps ps.length x) ∧ wr.ownsRow (w.heap.size + 1) 5 1 u L.length (bvals L) ∧ Below w.heap.size w wr ∧ wr.cell? ⟨w.heap.size, 0, none⟩ = some (.int .i64 o) ∧ wr.cell? ⟨w.heap.size, 1, none⟩ = some (.int .i64 l) ∧ wr.cell? ⟨w.heap.size, 2, none⟩ = some (.int .i64 m) ∧ wr.cell? ⟨w.heap.size, 3, none⟩ = some (.slice A ps.length c) ∧ wr.cell? ⟨w.heap.size, 4, none⟩ = some (.int .i64 b) ∧ wr.cell? ⟨w.heap.size, 5, none⟩ = some (.int .i64 t)) (fun cc _ _ _ => (intOf cc).toNat)
  case atStart => exact ⟨x, ps.length, [], rfl, hx, ⟨by omega, by simp, rfl⟩, World.ownsRow_nil _ _ _ _, s2⟩
  case round =>
    obtain ⟨y, f, L, rfl, HY, HF, hrow2, hS⟩ := hrel
    obtain ⟨hB, c0, c1, c2, c3, c4, c5⟩ := hS
    have hle : L.length ≤ 1024 := by have := HF.out; omega
    have hyc := Sx.codeB_of HY.out
    have hsw : w.heap.size + 1 ≤ wr.heap.size := World.block_lt_of_cell? wr _ c0
    clear s2
    by_cases hlt : Sx.two l + 1 < y
    · obtain ⟨i, f', hi, rfl, rfl, HC, h1, h2, hy0, hy1, HW⟩ := Sx.word_step hp HY.out HF.out.1 hlt
      obtain ⟨pg, po, rfl, hpg, hpc⟩ := hr (by omega)
      have hx2 := hpc i hi
      have HN := hide (show (L ++ [Sx.byteI (ps[i]).2]) ++ Sx.wrev l ps f' (ps[i]).1 = Sx.wrev l ps ps.length x by have := HF.out.2.2; rw [HW] at this; rw [← this]; simp)
      have HLn := HF.out.2.1
      have HV := hide (Sx.byteI_val hy0 (by omega))
      have HC := hide HC
      generalize (ps[i]).1 = px at *
      generalize (ps[i]).2 = py at *
      have x0 := (hB.cell (p := ⟨pg, po + i * 2, none⟩) hpg).trans hx2.1
      have x1 := (hB.cell (p := ⟨pg, po + i * 2 + 1, none⟩) hpg).trans hx2.2
      have e1 : wrap64 (Sx.two l + 2 + (i : Int) - (Sx.two l + 1)) = (i : Int) + 1 := (IntWalk.wrap64_in _ ⟨by omega, by omega⟩).trans (by omega)
      have e2 : Sx.two l + 2 + (i : Int) - (Sx.two l + 1) = (i : Int) + 1 := by omega
      have e4 : IntKind.u8.wrap py = py := by rw [IntKind.wrap_u8]; omega
      have i0' : (0 : Int) ≤ (i : Int) := Int.natCast_nonneg _
      have i1' : (i : Int) < (ps.length : Int) := by omega
      have hS6 : Below w.heap.size w wr ∧ wr.cell? ⟨w.heap.size, 0, none⟩ = some (.int .i64 o) ∧ wr.cell? ⟨w.heap.size, 1, none⟩ = some (.int .i64 l) ∧ wr.cell? ⟨w.heap.size, 2, none⟩ = some (.int .i64 m) ∧ wr.cell? ⟨w.heap.size, 3, none⟩ = some (.slice (some ⟨pg, po, none⟩) ps.length c) ∧ wr.cell? ⟨w.heap.size, 4, none⟩ = some (.int .i64 b) ∧ wr.cell? ⟨w.heap.size, 5, none⟩ = some (.int .i64 t) := ⟨hB, c0, c1, c2, c3, c4, c5⟩
      have hne := own_ne hrow2 (Nat.le_refl _)
      clear hpc hx2 HW HF HY hyc
      have hrow3 := hrow2.alloc (.cells #[.int .i64 px, .int .i64 py] 63)
      have hp0 : (wr.alloc (.cells #[.int .i64 px, .int .i64 py] 63)).cell? ⟨wr.heap.size, 0, none⟩ = some (.int .i64 px) := (Blk.new wr 63 #[.int .i64 px, .int .i64 py]).cell 0
      have hsA := World.size_alloc wr (.cells #[.int .i64 px, .int .i64 py] 63)
      go_wp2_with (at_builtin; refine wpList_append_own _ rfl (.tmp 35) (.tmp 39) _ rfl (w.heap.size + 1) 5 i0 (.int .u8 0) 1 1 Try.underlying48 hi0 hz0 hz1 hz2 rfl (by decide) _ _ _ rfl (hrow3.alloc _) ⟨wr.heap.size + 1, 0, none⟩ 1 1 [.int .u8 py] rfl rfl (by rw [← hsA]; exact u8_new _ _ _) (by simp [Value.oneCell']) (by simp only [maxLen]; omega) (by omega) (by simp; omega) ?_; intro v' w9 hown' hgrow _; have z0 := word_pcell hp0 hrow3 hne hgrow)
      go_roundw
      case rel => exact ⟨px, f', L ++ [Sx.byteI py], rfl, HC.out, ⟨h1, by rw [List.length_append]; simp; omega, HN.out⟩, own_snoc HV.out.symm hown', keepG6 (keep6 ((Below.refl _ _).alloc (Nat.le_refl _) _) (keep6 ((Below.refl _ _).alloc (Nat.le_refl _) _) hS6)) (hrow3.alloc _) (by omega) (by omega) hgrow⟩
      case measure => simp [intOf]; omega
    · have HW := hide (Sx.wrev_lit (ps := ps) (f := f) hlt)
      have hy2 : 0 ≤ y ∧ y < Sx.two l := by omega
      have HV := hide (Sx.byteI_val hy2.1 (by omega))
      have e4 : IntKind.u8.wrap y = y := by rw [IntKind.wrap_u8]; omega
      have HT := hide (show L ++ [Sx.byteI y] = Sx.wrev l ps ps.length x by have := HF.out.2.2; rw [HW.out] at this; exact this)
      have hTl := Sx.wrev_length l ps ps.length x
      go_wp2_with (at_builtin; refine wpList_append_own _ rfl (.tmp 43) (.tmp 46) _ rfl (w.heap.size + 1) 5 i0 (.int .u8 0) 1 1 Try.underlying48 hi0 hz0 hz1 hz2 rfl (by decide) _ _ _ rfl (hrow2.alloc _) ⟨wr.heap.size, 0, none⟩ 1 1 [.int .u8 y] rfl rfl (u8_new _ _ _) (by simp [Value.oneCell']) (by simp only [maxLen]; omega) (by omega) (by simp; omega) ?_; intro v' w9 hown' hgrow _)
      have hB9 := (hB.alloc hB.size _).grown hgrow (by simp; omega) fun g hg => by have := (hrow2.lt g hg).1; omega
      have hown := own_snoc HV.out.symm hown'
      rw [HT.out] at hown
      clear hown' hgrow HT HV HW HF HY hrow2 hyc c0 c1 c2 c3 c4 c5
      generalize hT : Sx.wrev l ps ps.length x = TT at hown hTl
      obtain ⟨g, cp, rfl, hgb⟩ := own_shape1 hown (by omega)
      have CR := hide (slices_Reverse (w.heap.size + 1) g cp TT w9 hown (by omega))
      clear hown
      go_wp2_with fail
      refine (unhide CR).mono ?_; rintro e w10 ⟨rfl, hown2, hg2⟩
      have hcv := run_own_string (P := Try.prog) w10 48 9 5 Try.underlying48 Try.underlying5 Try.underlying9 hown2
      have HWd := hide (show Sx.word l ps x = TT.reverse by unfold Sx.word; rw [hT])
      have hB10 := hB9.grown hg2 hB9.size fun k hk => by injection hk with hk; omega
      clear hT CR hg2
      go_wp2_with fail
      go_ret
      exact ⟨ret_str (by rw [HWd.out]), hB10⟩

end Go.Proofs.Ytegfcpdkehgdpaa

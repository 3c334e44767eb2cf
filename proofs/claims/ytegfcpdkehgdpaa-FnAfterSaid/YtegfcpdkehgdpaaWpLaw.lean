/- The walk of FnWordPrefix. Conditions: a slice of bytes. -/
import Derived.Test.YtegfcpdkehgdpaaDk4
import Derived.Test.YtegfcpdkehgdpaaSo
import Derived.Test.YtegfcpdkehgdpaaWp
namespace Go.Proofs.Ytegfcpdkehgdpaa
open Go.RowKit

theorem run_blk1 {w : World} {b : Nat} {t : TypeId} {u : UInt8} (h : Blk w b t #[.int .u8 (u.toNat : Int)]) : (convert 48 9 (.slice (some ⟨b, 0, none⟩) 1 1)).run Try.prog w = .ok (.string (str [u])) w := by
  refine run_convert_bytes_back w 48 9 5 ⟨b, 0, none⟩ 1 [u] Try.underlying48 Try.underlying5 Try.underlying9 fun j hj => ?_
  have : j = 0 := by simpa using hj
  subst this
  exact h.cell 0
theorem Sx.some_text {t : ByteArray} (h : 0 < t.size) : t.toList.isEmpty = false := by
  have h1 : t.toList.length = t.size := by rw [ByteArray.toList_eq, Array.length_toList]; rfl
  cases hl : t.toList with
  | nil => rw [hl] at h1; simp at h1; omega
  | cons _ _ => rfl
theorem Sx.wordOK_of {o l m b t x : Int} {ps : List (Int × Int)} (h : Sx.wordOK o l m ps b t x = true) : Sx.kOK o l m ps b t = true ∧ Sx.canB l m ps.length t x = true := by
  simpa only [Sx.wordOK, Bool.and_eq_true] using h
theorem Sx.wordS_code {o l m b t x : Int} {ps : List (Int × Int)} (h : Sx.kOK o l m ps b t = true) (hx : Sx.codeB l ps.length x = true) : Sx.wordS o l m ps b t x = str (Sx.word l ps x) := by
  rw [(Sx.word_yes h (by simp [Sx.canB, hx])).2, Sx.any_code hx]

set_option maxRecDepth 100000 in
set_option maxHeartbeats 4000000 in
theorem law_FnWordPrefix (A : Option Addr) (n c : Nat) (w : World) (h : Src w w.heap.size A n) (hc : n ≤ c) (hcm : c ≤ maxLen) :
    Calls Try.prog 9 #[.slice A n c] w fun e w' => e = .returned (.bool true) ∧ Below w.heap.size w w' := by
  by_cases hn : n ≤ 1048576
  · have HD := hide (draw_WordOf A n c w h hn hc hcm)
    have B0 : Below w.heap.size w w := Below.refl _ _
    clear h
    go_enter Try.func9, Try.ntmps9
    go_wp2_with fail
    refine ((unhide HD)).mono ?_; rintro e w1 ⟨o, l, m, A2, c2, b, t, ps, x, rfl, hl, hcp, P0, hb⟩
    have s1 : w.heap.size ≤ w1.heap.size := Below.size hb
    have B1 := below_next (Nat.le_refl _) B0 hb
    clear B0 hb
    clear HD
    have P1 := OwnV.pairs P0
    clear P0
    have s2 : (w1.alloc (.cells #[.int .i64 o, .int .i64 l, .int .i64 m, .slice A2 ps.length c2, .int .i64 b, .int .i64 t] 31)).heap.size = w1.heap.size + 1 := World.size_alloc _ _
    have B2 := B1.alloc B1.size (.cells #[.int .i64 o, .int .i64 l, .int .i64 m, .slice A2 ps.length c2, .int .i64 b, .int .i64 t] 31)
    have P2 := P1.alloc (.cells #[.int .i64 o, .int .i64 l, .int .i64 m, .slice A2 ps.length c2, .int .i64 b, .int .i64 t] 31)
    have Kb2 := Blk.new w1 31 #[.int .i64 o, .int .i64 l, .int .i64 m, .slice A2 ps.length c2, .int .i64 b, .int .i64 t]
    clear B1 P1
    have CI := fun (wx : World) (hp : PR wx wx.heap.size A2 ps) => impl_WordOf o l m A2 c2 b t x ps wx hp (by omega)
    have CS := fun (wx : World) (hp : PR wx wx.heap.size A2 ps) => spec_WordOf o l m A2 c2 b t x ps wx hp (by omega)
    cases hw : Sx.wordOK o l m ps b t x
    · skip
      obtain ⟨u, hu⟩ : ∃ u, u = Sx.wordS o l m ps b t x := ⟨_, rfl⟩
      rw [hw, ← hu] at CI CS
      clear hw hu
      have CI := hide CI
      have CS := hide CS
      have Kbc0 : (w1.alloc (.cells #[.int .i64 o, .int .i64 l, .int .i64 m, .slice A2 ps.length c2, .int .i64 b, .int .i64 t] 31)).cell? ⟨w1.heap.size, 0, none⟩ = some (.int .i64 o) := Kb2.cell 0
      have Kbc1 : (w1.alloc (.cells #[.int .i64 o, .int .i64 l, .int .i64 m, .slice A2 ps.length c2, .int .i64 b, .int .i64 t] 31)).cell? ⟨w1.heap.size, 1, none⟩ = some (.int .i64 l) := Kb2.cell 1
      have Kbc2 : (w1.alloc (.cells #[.int .i64 o, .int .i64 l, .int .i64 m, .slice A2 ps.length c2, .int .i64 b, .int .i64 t] 31)).cell? ⟨w1.heap.size, 2, none⟩ = some (.int .i64 m) := Kb2.cell 2
      have Kbc3 : (w1.alloc (.cells #[.int .i64 o, .int .i64 l, .int .i64 m, .slice A2 ps.length c2, .int .i64 b, .int .i64 t] 31)).cell? ⟨w1.heap.size, 3, none⟩ = some (.slice A2 ps.length c2) := Kb2.cell 3
      have Kbc4 : (w1.alloc (.cells #[.int .i64 o, .int .i64 l, .int .i64 m, .slice A2 ps.length c2, .int .i64 b, .int .i64 t] 31)).cell? ⟨w1.heap.size, 4, none⟩ = some (.int .i64 b) := Kb2.cell 4
      have Kbc5 : (w1.alloc (.cells #[.int .i64 o, .int .i64 l, .int .i64 m, .slice A2 ps.length c2, .int .i64 b, .int .i64 t] 31)).cell? ⟨w1.heap.size, 5, none⟩ = some (.int .i64 t) := Kb2.cell 5
      go_wp2_with fail
      refine ((unhide CI) _ (P2.pr (Nat.le_refl _))).mono ?_; rintro e w2 ⟨rfl, hb⟩
      have s3 : (w1.alloc (.cells #[.int .i64 o, .int .i64 l, .int .i64 m, .slice A2 ps.length c2, .int .i64 b, .int .i64 t] 31)).heap.size ≤ w2.heap.size := Below.size hb
      have B3 := below_next (Nat.le_refl _) B2 hb
      have Kb3 := Kb2.below hb Kb2.lt
      have P3 := P2.below hb
      clear B2 Kb2 P2 Kbc0 Kbc1 Kbc2 Kbc3 Kbc4 Kbc5 hb
      have Kbc0 : w2.cell? ⟨w1.heap.size, 0, none⟩ = some (.int .i64 o) := Kb3.cell 0
      have Kbc1 : w2.cell? ⟨w1.heap.size, 1, none⟩ = some (.int .i64 l) := Kb3.cell 1
      have Kbc2 : w2.cell? ⟨w1.heap.size, 2, none⟩ = some (.int .i64 m) := Kb3.cell 2
      have Kbc3 : w2.cell? ⟨w1.heap.size, 3, none⟩ = some (.slice A2 ps.length c2) := Kb3.cell 3
      have Kbc4 : w2.cell? ⟨w1.heap.size, 4, none⟩ = some (.int .i64 b) := Kb3.cell 4
      have Kbc5 : w2.cell? ⟨w1.heap.size, 5, none⟩ = some (.int .i64 t) := Kb3.cell 5
      go_wp2_with fail
      refine ((unhide CS) _ (P3.pr (Nat.le_refl _))).mono ?_; rintro e w3 ⟨rfl, hb⟩
      have s4 : w2.heap.size ≤ w3.heap.size := Below.size hb
      have B4 := below_next (Nat.le_refl _) B3 hb
      have Kb4 := Kb3.below hb Kb3.lt
      have P4 := P3.below hb
      clear B3 Kb3 P3 Kbc0 Kbc1 Kbc2 Kbc3 Kbc4 Kbc5 hb
      go_wp2_with fail
      go_ret
      exact ⟨rfl, B4⟩
    · skip
      obtain ⟨hk, hc⟩ := Sx.wordOK_of hw
      rw [hw] at CI CS
      obtain ⟨n0, n1, n2, n3, n4, n5⟩ := Sx.kOK_nums hk
      have hok := (Sx.kOK_of hk).1
      have hps := (Sx.kOK_of hk).2.2.2.1
      have t1 := Sx.two_pos l
      have t2 := Sx.two_byte n1
      have hcc := Sx.can_code hk hc
      have hx0 := Sx.can_nonneg hc
      have hWS := (Sx.word_yes hk hc).2
      have CC := hide (fun wx => by have := impl_ClearCode o l m wx; rwa [Sx.clear_yes hok] at this)
      have CE := hide (fun wx => by have := impl_EndCode o l m wx; rwa [Sx.end_yes hok] at this)
      by_cases hlit : x < Sx.two l
      · skip
        obtain ⟨u, hu⟩ : ∃ u, u = Sx.byteI x := ⟨_, rfl⟩
        have eb : IntKind.u8.wrap x = ((u.toNat : Nat) : Int) := by rw [hu]; exact Sx.byteI_ofNat hx0 (by omega)
        rw [hWS, Sx.any_else (by omega), Sx.word_lit hlit, ← hu] at CI CS
        have CI := hide CI
        have CS := hide CS
        have hcv := fun wx => run_one_string (P := Try.prog) wx 48 9 5 Try.underlying48 Try.underlying5 Try.underlying9 u 5
        clear hw hk hc hcc hWS hu hps hok
        have Kbc0 : (w1.alloc (.cells #[.int .i64 o, .int .i64 l, .int .i64 m, .slice A2 ps.length c2, .int .i64 b, .int .i64 t] 31)).cell? ⟨w1.heap.size, 0, none⟩ = some (.int .i64 o) := Kb2.cell 0
        have Kbc1 : (w1.alloc (.cells #[.int .i64 o, .int .i64 l, .int .i64 m, .slice A2 ps.length c2, .int .i64 b, .int .i64 t] 31)).cell? ⟨w1.heap.size, 1, none⟩ = some (.int .i64 l) := Kb2.cell 1
        have Kbc2 : (w1.alloc (.cells #[.int .i64 o, .int .i64 l, .int .i64 m, .slice A2 ps.length c2, .int .i64 b, .int .i64 t] 31)).cell? ⟨w1.heap.size, 2, none⟩ = some (.int .i64 m) := Kb2.cell 2
        have Kbc3 : (w1.alloc (.cells #[.int .i64 o, .int .i64 l, .int .i64 m, .slice A2 ps.length c2, .int .i64 b, .int .i64 t] 31)).cell? ⟨w1.heap.size, 3, none⟩ = some (.slice A2 ps.length c2) := Kb2.cell 3
        have Kbc4 : (w1.alloc (.cells #[.int .i64 o, .int .i64 l, .int .i64 m, .slice A2 ps.length c2, .int .i64 b, .int .i64 t] 31)).cell? ⟨w1.heap.size, 4, none⟩ = some (.int .i64 b) := Kb2.cell 4
        have Kbc5 : (w1.alloc (.cells #[.int .i64 o, .int .i64 l, .int .i64 m, .slice A2 ps.length c2, .int .i64 b, .int .i64 t] 31)).cell? ⟨w1.heap.size, 5, none⟩ = some (.int .i64 t) := Kb2.cell 5
        go_wp2_with fail
        refine ((unhide CI) _ (P2.pr (Nat.le_refl _))).mono ?_; rintro e w2 ⟨rfl, hb⟩
        have s3 : (w1.alloc (.cells #[.int .i64 o, .int .i64 l, .int .i64 m, .slice A2 ps.length c2, .int .i64 b, .int .i64 t] 31)).heap.size ≤ w2.heap.size := Below.size hb
        have B3 := below_next (Nat.le_refl _) B2 hb
        have Kb3 := Kb2.below hb Kb2.lt
        have P3 := P2.below hb
        clear B2 Kb2 P2 Kbc0 Kbc1 Kbc2 Kbc3 Kbc4 Kbc5 hb
        have Kbc0 : w2.cell? ⟨w1.heap.size, 0, none⟩ = some (.int .i64 o) := Kb3.cell 0
        have Kbc1 : w2.cell? ⟨w1.heap.size, 1, none⟩ = some (.int .i64 l) := Kb3.cell 1
        have Kbc2 : w2.cell? ⟨w1.heap.size, 2, none⟩ = some (.int .i64 m) := Kb3.cell 2
        have Kbc3 : w2.cell? ⟨w1.heap.size, 3, none⟩ = some (.slice A2 ps.length c2) := Kb3.cell 3
        have Kbc4 : w2.cell? ⟨w1.heap.size, 4, none⟩ = some (.int .i64 b) := Kb3.cell 4
        have Kbc5 : w2.cell? ⟨w1.heap.size, 5, none⟩ = some (.int .i64 t) := Kb3.cell 5
        go_wp2_with fail
        refine ((unhide CS) _ (P3.pr (Nat.le_refl _))).mono ?_; rintro e w3 ⟨rfl, hb⟩
        have s4 : w2.heap.size ≤ w3.heap.size := Below.size hb
        have B4 := below_next (Nat.le_refl _) B3 hb
        have Kb4 := Kb3.below hb Kb3.lt
        have P4 := P3.below hb
        clear B3 Kb3 P3 Kbc0 Kbc1 Kbc2 Kbc3 Kbc4 Kbc5 hb
        have Kbc0 : w3.cell? ⟨w1.heap.size, 0, none⟩ = some (.int .i64 o) := Kb4.cell 0
        have Kbc1 : w3.cell? ⟨w1.heap.size, 1, none⟩ = some (.int .i64 l) := Kb4.cell 1
        have Kbc2 : w3.cell? ⟨w1.heap.size, 2, none⟩ = some (.int .i64 m) := Kb4.cell 2
        have Kbc3 : w3.cell? ⟨w1.heap.size, 3, none⟩ = some (.slice A2 ps.length c2) := Kb4.cell 3
        have Kbc4 : w3.cell? ⟨w1.heap.size, 4, none⟩ = some (.int .i64 b) := Kb4.cell 4
        have Kbc5 : w3.cell? ⟨w1.heap.size, 5, none⟩ = some (.int .i64 t) := Kb4.cell 5
        go_wp2_with fail
        refine ((unhide CC) _).mono ?_; rintro e w4 ⟨rfl, hb⟩
        have s5 : w3.heap.size ≤ w4.heap.size := Below.size hb
        have B5 := below_next (Nat.le_refl _) B4 hb
        have Kb5 := Kb4.below hb Kb4.lt
        have P5 := P4.below hb
        clear B4 Kb4 P4 Kbc0 Kbc1 Kbc2 Kbc3 Kbc4 Kbc5 hb
        go_wp2_with fail
        go_ret
        exact ⟨rfl, B5.alloc B5.size _⟩
      · have x1 : ¬ x < Sx.two l := hlit
        by_cases hnx : x = Sx.two l + 2 + (ps.length : Int)
        · skip
          have hgt : Sx.codeB l ps.length t = true := by
            rcases hcc with hcc | hcc
            · have := Sx.codeB_of hcc; omega
            · exact hcc.2
          have hL := (Sx.word_length l ps t).1
          obtain ⟨u, hu⟩ : ∃ u, u = str (Sx.word l ps t) := ⟨_, rfl⟩
          have HL : 0 < u.size := by rw [hu, str_size]; exact hL
          have HL1 : (1 : Int) ≤ (u.size : Int) := by omega
          have HE3 : u.toList.isEmpty = false := Sx.some_text HL
          have HE : u ≠ ({ data := #[] } : ByteArray) := fun e => by rw [e] at HL; exact absurd HL (by decide)
          have hu2 : u.size ≤ 1025 := by rw [hu, str_size]; have := (Sx.word_length l ps t).2; omega
          have hu3 : (u.extract 0 1).size ≤ 1 := by rw [ByteArray.size_extract]; omega
          have HS : u.size + (u.extract 0 1).size ≤ 9223372036854775807 := by omega
          have HS2 : ¬ 9223372036854775807 < u.size + (u.extract 0 1).size := by omega
          rw [hWS, Sx.any_next hnx, ← str_first, ← hu] at CI CS
          have CI := hide CI
          have CS := hide CS
          have CT := hide (fun (wx : World) (hp : PR wx wx.heap.size A2 ps) => by have := laws_soWord o l m A2 c2 b t t ps wx hp (by omega); rwa [Sx.wordS_code hk hgt, ← hu] at this)
          have e1 : IntKind.i64.wrap (x - (Sx.two l + 1)) = (ps.length : Int) + 1 := by rw [IntWalk.i64_in _ (by omega)]; omega
          have e1b : x - (Sx.two l + 1) = (ps.length : Int) + 1 := by omega
          clear hw hk hc hcc hWS hu hps hok hgt hL hlit hnx
          have Kbc0 : (w1.alloc (.cells #[.int .i64 o, .int .i64 l, .int .i64 m, .slice A2 ps.length c2, .int .i64 b, .int .i64 t] 31)).cell? ⟨w1.heap.size, 0, none⟩ = some (.int .i64 o) := Kb2.cell 0
          have Kbc1 : (w1.alloc (.cells #[.int .i64 o, .int .i64 l, .int .i64 m, .slice A2 ps.length c2, .int .i64 b, .int .i64 t] 31)).cell? ⟨w1.heap.size, 1, none⟩ = some (.int .i64 l) := Kb2.cell 1
          have Kbc2 : (w1.alloc (.cells #[.int .i64 o, .int .i64 l, .int .i64 m, .slice A2 ps.length c2, .int .i64 b, .int .i64 t] 31)).cell? ⟨w1.heap.size, 2, none⟩ = some (.int .i64 m) := Kb2.cell 2
          have Kbc3 : (w1.alloc (.cells #[.int .i64 o, .int .i64 l, .int .i64 m, .slice A2 ps.length c2, .int .i64 b, .int .i64 t] 31)).cell? ⟨w1.heap.size, 3, none⟩ = some (.slice A2 ps.length c2) := Kb2.cell 3
          have Kbc4 : (w1.alloc (.cells #[.int .i64 o, .int .i64 l, .int .i64 m, .slice A2 ps.length c2, .int .i64 b, .int .i64 t] 31)).cell? ⟨w1.heap.size, 4, none⟩ = some (.int .i64 b) := Kb2.cell 4
          have Kbc5 : (w1.alloc (.cells #[.int .i64 o, .int .i64 l, .int .i64 m, .slice A2 ps.length c2, .int .i64 b, .int .i64 t] 31)).cell? ⟨w1.heap.size, 5, none⟩ = some (.int .i64 t) := Kb2.cell 5
          go_wp2_with fail
          refine ((unhide CI) _ (P2.pr (Nat.le_refl _))).mono ?_; rintro e w2 ⟨rfl, hb⟩
          have s3 : (w1.alloc (.cells #[.int .i64 o, .int .i64 l, .int .i64 m, .slice A2 ps.length c2, .int .i64 b, .int .i64 t] 31)).heap.size ≤ w2.heap.size := Below.size hb
          have B3 := below_next (Nat.le_refl _) B2 hb
          have Kb3 := Kb2.below hb Kb2.lt
          have P3 := P2.below hb
          clear B2 Kb2 P2 Kbc0 Kbc1 Kbc2 Kbc3 Kbc4 Kbc5 hb
          have Kbc0 : w2.cell? ⟨w1.heap.size, 0, none⟩ = some (.int .i64 o) := Kb3.cell 0
          have Kbc1 : w2.cell? ⟨w1.heap.size, 1, none⟩ = some (.int .i64 l) := Kb3.cell 1
          have Kbc2 : w2.cell? ⟨w1.heap.size, 2, none⟩ = some (.int .i64 m) := Kb3.cell 2
          have Kbc3 : w2.cell? ⟨w1.heap.size, 3, none⟩ = some (.slice A2 ps.length c2) := Kb3.cell 3
          have Kbc4 : w2.cell? ⟨w1.heap.size, 4, none⟩ = some (.int .i64 b) := Kb3.cell 4
          have Kbc5 : w2.cell? ⟨w1.heap.size, 5, none⟩ = some (.int .i64 t) := Kb3.cell 5
          go_wp2_with fail
          refine ((unhide CS) _ (P3.pr (Nat.le_refl _))).mono ?_; rintro e w3 ⟨rfl, hb⟩
          have s4 : w2.heap.size ≤ w3.heap.size := Below.size hb
          have B4 := below_next (Nat.le_refl _) B3 hb
          have Kb4 := Kb3.below hb Kb3.lt
          have P4 := P3.below hb
          clear B3 Kb3 P3 Kbc0 Kbc1 Kbc2 Kbc3 Kbc4 Kbc5 hb
          have Kbc0 : w3.cell? ⟨w1.heap.size, 0, none⟩ = some (.int .i64 o) := Kb4.cell 0
          have Kbc1 : w3.cell? ⟨w1.heap.size, 1, none⟩ = some (.int .i64 l) := Kb4.cell 1
          have Kbc2 : w3.cell? ⟨w1.heap.size, 2, none⟩ = some (.int .i64 m) := Kb4.cell 2
          have Kbc3 : w3.cell? ⟨w1.heap.size, 3, none⟩ = some (.slice A2 ps.length c2) := Kb4.cell 3
          have Kbc4 : w3.cell? ⟨w1.heap.size, 4, none⟩ = some (.int .i64 b) := Kb4.cell 4
          have Kbc5 : w3.cell? ⟨w1.heap.size, 5, none⟩ = some (.int .i64 t) := Kb4.cell 5
          go_wp2_with fail
          refine ((unhide CC) _).mono ?_; rintro e w4 ⟨rfl, hb⟩
          have s5 : w3.heap.size ≤ w4.heap.size := Below.size hb
          have B5 := below_next (Nat.le_refl _) B4 hb
          have Kb5 := Kb4.below hb Kb4.lt
          have P5 := P4.below hb
          clear B4 Kb4 P4 Kbc0 Kbc1 Kbc2 Kbc3 Kbc4 Kbc5 hb
          have Kbc0 : w4.cell? ⟨w1.heap.size, 0, none⟩ = some (.int .i64 o) := Kb5.cell 0
          have Kbc1 : w4.cell? ⟨w1.heap.size, 1, none⟩ = some (.int .i64 l) := Kb5.cell 1
          have Kbc2 : w4.cell? ⟨w1.heap.size, 2, none⟩ = some (.int .i64 m) := Kb5.cell 2
          have Kbc3 : w4.cell? ⟨w1.heap.size, 3, none⟩ = some (.slice A2 ps.length c2) := Kb5.cell 3
          have Kbc4 : w4.cell? ⟨w1.heap.size, 4, none⟩ = some (.int .i64 b) := Kb5.cell 4
          have Kbc5 : w4.cell? ⟨w1.heap.size, 5, none⟩ = some (.int .i64 t) := Kb5.cell 5
          go_wp2_with fail
          refine ((unhide CE) _).mono ?_; rintro e w5 ⟨rfl, hb⟩
          have s6 : w4.heap.size ≤ w5.heap.size := Below.size hb
          have B6 := below_next (Nat.le_refl _) B5 hb
          have Kb6 := Kb5.below hb Kb5.lt
          have P6 := P5.below hb
          clear B5 Kb5 P5 Kbc0 Kbc1 Kbc2 Kbc3 Kbc4 Kbc5 hb
          have Kbc0 : w5.cell? ⟨w1.heap.size, 0, none⟩ = some (.int .i64 o) := Kb6.cell 0
          have Kbc1 : w5.cell? ⟨w1.heap.size, 1, none⟩ = some (.int .i64 l) := Kb6.cell 1
          have Kbc2 : w5.cell? ⟨w1.heap.size, 2, none⟩ = some (.int .i64 m) := Kb6.cell 2
          have Kbc3 : w5.cell? ⟨w1.heap.size, 3, none⟩ = some (.slice A2 ps.length c2) := Kb6.cell 3
          have Kbc4 : w5.cell? ⟨w1.heap.size, 4, none⟩ = some (.int .i64 b) := Kb6.cell 4
          have Kbc5 : w5.cell? ⟨w1.heap.size, 5, none⟩ = some (.int .i64 t) := Kb6.cell 5
          go_wp2_with fail
          refine ((unhide CT) _ (P6.pr (Nat.le_refl _))).mono ?_; rintro e w6 ⟨rfl, hb⟩
          have s7 : w5.heap.size ≤ w6.heap.size := Below.size hb
          have B7 := below_next (Nat.le_refl _) B6 hb
          have Kb7 := Kb6.below hb Kb6.lt
          have P7 := P6.below hb
          clear B6 Kb6 P6 Kbc0 Kbc1 Kbc2 Kbc3 Kbc4 Kbc5 hb
          go_wp2_with fail
          go_ret
          exact ⟨rfl, B7⟩
        · skip
          have hxc : Sx.codeB l ps.length x = true := hcc.resolve_right (fun h => hnx h.1)
          have hb2 := Sx.codeB_of hxc
          obtain ⟨i, hi⟩ : ∃ i : Nat, x = Sx.two l + 2 + (i : Int) := ⟨(x - (Sx.two l + 2)).toNat, by omega⟩
          have hil : i < ps.length := by omega
          obtain ⟨hpc, hy0, hy1⟩ := Sx.pairsOK_at hps hil (Nat.le_refl _)
          have hwp := Sx.word_pair hps hi hil
          have hpy := Sx.wordS_code hk (Sx.codeB_mono hpc (Nat.le_of_lt hil))
          have PX : ∀ {wx : World}, PR wx wx.heap.size A2 ps → ∃ g off, A2 = some ⟨g, off, none⟩ ∧ wx.cell? ⟨g, off + i * 2, none⟩ = some (.int .i64 (ps[i]).1) ∧ wx.cell? ⟨g, off + i * 2 + 1, none⟩ = some (.int .i64 (ps[i]).2) := fun hp => by
            obtain ⟨g, off, e, _, hcl⟩ := hp (by omega)
            exact ⟨g, off, e, (hcl i hil).1, (hcl i hil).2⟩
          obtain ⟨px, hpx⟩ : ∃ p, p = (ps[i]).1 := ⟨_, rfl⟩
          obtain ⟨py, hpy2⟩ : ∃ p, p = (ps[i]).2 := ⟨_, rfl⟩
          rw [← hpx] at hwp hpy
          rw [← hpy2] at hwp hy0 hy1
          simp only [← hpx, ← hpy2] at PX
          obtain ⟨v, hv⟩ : ∃ v, v = Sx.byteI py := ⟨_, rfl⟩
          obtain ⟨u, hu⟩ : ∃ u, u = str (Sx.word l ps px) := ⟨_, rfl⟩
          have eb : IntKind.u8.wrap py = ((v.toNat : Nat) : Int) := by rw [hv]; exact Sx.byteI_ofNat hy0 (by omega)
          have hwu : str (Sx.word l ps x) = u ++ str [v] := by rw [hwp, hu, hv, str_append]
          rw [hWS, Sx.any_else hnx, hwu] at CI CS
          have CI := hide CI
          have CS := hide CS
          have CT := hide (fun (wx : World) (hp : PR wx wx.heap.size A2 ps) => by have := laws_soWord o l m A2 c2 b t px ps wx hp (by omega); rwa [hpy, ← hu] at this)
          have hu2 : u.size ≤ 1025 := by rw [hu, str_size]; have := (Sx.word_length l ps px).2; omega
          have HS : u.size + (str [v]).size ≤ 9223372036854775807 := by rw [str_size]; simp; omega
          have HS2 : ¬ 9223372036854775807 < u.size + (str [v]).size := by omega
          have e1 : IntKind.i64.wrap (x - (Sx.two l + 1)) = (i : Int) + 1 := by rw [IntWalk.i64_in _ (by omega)]; omega
          have e1b : x - (Sx.two l + 1) = (i : Int) + 1 := by omega
          have i0 : (0 : Int) ≤ (i : Int) := Int.natCast_nonneg _
          have i1 : (i : Int) < (ps.length : Int) := by omega
          have i2 : ((i : Int) == (ps.length : Int)) = false := by rw [beq_eq_false_iff_ne]; omega
          clear hw hk hc hcc hWS hok hnx hxc hb2 hpc hwp hpy hv hu hwu hps hlit hpx hpy2 hi
          have Kbc0 : (w1.alloc (.cells #[.int .i64 o, .int .i64 l, .int .i64 m, .slice A2 ps.length c2, .int .i64 b, .int .i64 t] 31)).cell? ⟨w1.heap.size, 0, none⟩ = some (.int .i64 o) := Kb2.cell 0
          have Kbc1 : (w1.alloc (.cells #[.int .i64 o, .int .i64 l, .int .i64 m, .slice A2 ps.length c2, .int .i64 b, .int .i64 t] 31)).cell? ⟨w1.heap.size, 1, none⟩ = some (.int .i64 l) := Kb2.cell 1
          have Kbc2 : (w1.alloc (.cells #[.int .i64 o, .int .i64 l, .int .i64 m, .slice A2 ps.length c2, .int .i64 b, .int .i64 t] 31)).cell? ⟨w1.heap.size, 2, none⟩ = some (.int .i64 m) := Kb2.cell 2
          have Kbc3 : (w1.alloc (.cells #[.int .i64 o, .int .i64 l, .int .i64 m, .slice A2 ps.length c2, .int .i64 b, .int .i64 t] 31)).cell? ⟨w1.heap.size, 3, none⟩ = some (.slice A2 ps.length c2) := Kb2.cell 3
          have Kbc4 : (w1.alloc (.cells #[.int .i64 o, .int .i64 l, .int .i64 m, .slice A2 ps.length c2, .int .i64 b, .int .i64 t] 31)).cell? ⟨w1.heap.size, 4, none⟩ = some (.int .i64 b) := Kb2.cell 4
          have Kbc5 : (w1.alloc (.cells #[.int .i64 o, .int .i64 l, .int .i64 m, .slice A2 ps.length c2, .int .i64 b, .int .i64 t] 31)).cell? ⟨w1.heap.size, 5, none⟩ = some (.int .i64 t) := Kb2.cell 5
          go_wp2_with fail
          refine ((unhide CI) _ (P2.pr (Nat.le_refl _))).mono ?_; rintro e w2 ⟨rfl, hb⟩
          have s3 : (w1.alloc (.cells #[.int .i64 o, .int .i64 l, .int .i64 m, .slice A2 ps.length c2, .int .i64 b, .int .i64 t] 31)).heap.size ≤ w2.heap.size := Below.size hb
          have B3 := below_next (Nat.le_refl _) B2 hb
          have Kb3 := Kb2.below hb Kb2.lt
          have P3 := P2.below hb
          clear B2 Kb2 P2 Kbc0 Kbc1 Kbc2 Kbc3 Kbc4 Kbc5 hb
          have Kbc0 : w2.cell? ⟨w1.heap.size, 0, none⟩ = some (.int .i64 o) := Kb3.cell 0
          have Kbc1 : w2.cell? ⟨w1.heap.size, 1, none⟩ = some (.int .i64 l) := Kb3.cell 1
          have Kbc2 : w2.cell? ⟨w1.heap.size, 2, none⟩ = some (.int .i64 m) := Kb3.cell 2
          have Kbc3 : w2.cell? ⟨w1.heap.size, 3, none⟩ = some (.slice A2 ps.length c2) := Kb3.cell 3
          have Kbc4 : w2.cell? ⟨w1.heap.size, 4, none⟩ = some (.int .i64 b) := Kb3.cell 4
          have Kbc5 : w2.cell? ⟨w1.heap.size, 5, none⟩ = some (.int .i64 t) := Kb3.cell 5
          go_wp2_with fail
          refine ((unhide CS) _ (P3.pr (Nat.le_refl _))).mono ?_; rintro e w3 ⟨rfl, hb⟩
          have s4 : w2.heap.size ≤ w3.heap.size := Below.size hb
          have B4 := below_next (Nat.le_refl _) B3 hb
          have Kb4 := Kb3.below hb Kb3.lt
          have P4 := P3.below hb
          clear B3 Kb3 P3 Kbc0 Kbc1 Kbc2 Kbc3 Kbc4 Kbc5 hb
          have Kbc0 : w3.cell? ⟨w1.heap.size, 0, none⟩ = some (.int .i64 o) := Kb4.cell 0
          have Kbc1 : w3.cell? ⟨w1.heap.size, 1, none⟩ = some (.int .i64 l) := Kb4.cell 1
          have Kbc2 : w3.cell? ⟨w1.heap.size, 2, none⟩ = some (.int .i64 m) := Kb4.cell 2
          have Kbc3 : w3.cell? ⟨w1.heap.size, 3, none⟩ = some (.slice A2 ps.length c2) := Kb4.cell 3
          have Kbc4 : w3.cell? ⟨w1.heap.size, 4, none⟩ = some (.int .i64 b) := Kb4.cell 4
          have Kbc5 : w3.cell? ⟨w1.heap.size, 5, none⟩ = some (.int .i64 t) := Kb4.cell 5
          go_wp2_with fail
          refine ((unhide CC) _).mono ?_; rintro e w4 ⟨rfl, hb⟩
          have s5 : w3.heap.size ≤ w4.heap.size := Below.size hb
          have B5 := below_next (Nat.le_refl _) B4 hb
          have Kb5 := Kb4.below hb Kb4.lt
          have P5 := P4.below hb
          clear B4 Kb4 P4 Kbc0 Kbc1 Kbc2 Kbc3 Kbc4 Kbc5 hb
          have Kbc0 : w4.cell? ⟨w1.heap.size, 0, none⟩ = some (.int .i64 o) := Kb5.cell 0
          have Kbc1 : w4.cell? ⟨w1.heap.size, 1, none⟩ = some (.int .i64 l) := Kb5.cell 1
          have Kbc2 : w4.cell? ⟨w1.heap.size, 2, none⟩ = some (.int .i64 m) := Kb5.cell 2
          have Kbc3 : w4.cell? ⟨w1.heap.size, 3, none⟩ = some (.slice A2 ps.length c2) := Kb5.cell 3
          have Kbc4 : w4.cell? ⟨w1.heap.size, 4, none⟩ = some (.int .i64 b) := Kb5.cell 4
          have Kbc5 : w4.cell? ⟨w1.heap.size, 5, none⟩ = some (.int .i64 t) := Kb5.cell 5
          go_wp2_with fail
          refine ((unhide CE) _).mono ?_; rintro e w5 ⟨rfl, hb⟩
          have s6 : w4.heap.size ≤ w5.heap.size := Below.size hb
          have B6 := below_next (Nat.le_refl _) B5 hb
          have Kb6 := Kb5.below hb Kb5.lt
          have P6 := P5.below hb
          clear B5 Kb5 P5 Kbc0 Kbc1 Kbc2 Kbc3 Kbc4 Kbc5 hb
          obtain ⟨pg, po, rfl, z0, z1⟩ := PX (P6.pr (Nat.le_refl _))
          clear PX
          have Kbc0 : w5.cell? ⟨w1.heap.size, 0, none⟩ = some (.int .i64 o) := Kb6.cell 0
          have Kbc1 : w5.cell? ⟨w1.heap.size, 1, none⟩ = some (.int .i64 l) := Kb6.cell 1
          have Kbc2 : w5.cell? ⟨w1.heap.size, 2, none⟩ = some (.int .i64 m) := Kb6.cell 2
          have Kbc3 : w5.cell? ⟨w1.heap.size, 3, none⟩ = some (.slice (some ⟨pg, po, none⟩) ps.length c2) := Kb6.cell 3
          have Kbc4 : w5.cell? ⟨w1.heap.size, 4, none⟩ = some (.int .i64 b) := Kb6.cell 4
          have Kbc5 : w5.cell? ⟨w1.heap.size, 5, none⟩ = some (.int .i64 t) := Kb6.cell 5
          go_wp2_with fail
          have s14 : Below w5.heap.size w5 w5.drew ∧ w5.drew.cell? ⟨w1.heap.size, 0, none⟩ = some (.int .i64 o) ∧ w5.drew.cell? ⟨w1.heap.size, 1, none⟩ = some (.int .i64 l) ∧ w5.drew.cell? ⟨w1.heap.size, 2, none⟩ = some (.int .i64 m) ∧ w5.drew.cell? ⟨w1.heap.size, 3, none⟩ = some (.slice (some ⟨pg, po, none⟩) ps.length c2) ∧ w5.drew.cell? ⟨w1.heap.size, 4, none⟩ = some (.int .i64 b) ∧ w5.drew.cell? ⟨w1.heap.size, 5, none⟩ = some (.int .i64 t) ∧ w5.drew.cell? ⟨pg, po + i * 2, none⟩ = some (.int .i64 px) ∧ w5.drew.cell? ⟨pg, po + i * 2 + 1, none⟩ = some (.int .i64 py) := ⟨(Below.refl _ _).drew, Kb6.cell 0, Kb6.cell 1, Kb6.cell 2, Kb6.cell 3, Kb6.cell 4, Kb6.cell 5, z0, z1⟩
          refine wp_region_held_drew (S := (fun W => Below w5.heap.size w5 W ∧ W.cell? ⟨w1.heap.size, 0, none⟩ = some (.int .i64 o) ∧ W.cell? ⟨w1.heap.size, 1, none⟩ = some (.int .i64 l) ∧ W.cell? ⟨w1.heap.size, 2, none⟩ = some (.int .i64 m) ∧ W.cell? ⟨w1.heap.size, 3, none⟩ = some (.slice (some ⟨pg, po, none⟩) ps.length c2) ∧ W.cell? ⟨w1.heap.size, 4, none⟩ = some (.int .i64 b) ∧ W.cell? ⟨w1.heap.size, 5, none⟩ = some (.int .i64 t) ∧ W.cell? ⟨pg, po + i * 2, none⟩ = some (.int .i64 px) ∧ W.cell? ⟨pg, po + i * 2 + 1, none⟩ = some (.int .i64 py))) (by kernel_rfl) (by first | assumption | exact s14 | exact keep8 hb hHeld) (fun hHeld => ?_)
          refine wpAnyH_take (i := 0) (oi := { dst := some 87, op := Op.move (Operand.tmp 9), type := 3, pos := "laws.go:417", after := #[], guard := none }) (v := ?_) rfl (by kernel_rfl) (by kernel_rfl) (by kernel_rfl) (fun _ _ _ h => h) (Or.inl ⟨by rfl, ?_⟩) (by assumption) ?_; rotate_left
          · intro W hW; (try dsimp only at hW); go_simp;  try (with_reducible rfl)
          try simp only [Act.put, List.setIfInBounds_toArray, List.set_cons_zero, List.set_cons_succ]
          refine wpAnyH_take (i := 1) (oi := { dst := some 88, op := Op.binOp BinOp.geq 3 (Operand.tmp 87) (Operand.const (Value.int IntKind.i64 0)) 3, type := 4, pos := "laws.go:417", after := #[{ on := 0, ground := Ground.data }], guard := none }) (v := ?_) rfl (by kernel_rfl) (by kernel_rfl) (by kernel_rfl) (fun _ _ _ h => h) (Or.inl ⟨by rfl, ?_⟩) (by assumption) ?_; rotate_left
          · intro W hW; (try dsimp only at hW); go_simp;  try (with_reducible rfl)
          try simp only [Act.put, List.setIfInBounds_toArray, List.set_cons_zero, List.set_cons_succ]
          refine wpAnyH_take (i := 2) (oi := { dst := some 89, op := Op.move (Operand.tmp 88), type := 4, pos := "laws.go:417", after := #[{ on := 1, ground := Ground.data }], guard := none }) (v := ?_) rfl (by kernel_rfl) (by kernel_rfl) (by kernel_rfl) (fun _ _ _ h => h) (Or.inl ⟨by rfl, ?_⟩) (by assumption) ?_; rotate_left
          · intro W hW; (try dsimp only at hW); go_simp;  try (with_reducible rfl)
          try simp only [Act.put, List.setIfInBounds_toArray, List.set_cons_zero, List.set_cons_succ]
          refine wpAnyH_take (i := 3) (oi := { dst := some 90, op := Op.move (Operand.tmp 9), type := 3, pos := "laws.go:417", after := #[{ on := 2, ground := Ground.guard }], guard := some (2, true) }) (v := ?_) rfl (by kernel_rfl) (by kernel_rfl) (by kernel_rfl) (fun _ _ _ h => h) (Or.inl ⟨by rfl, ?_⟩) (by assumption) ?_; rotate_left
          · intro W hW; (try dsimp only at hW); go_simp;  try (with_reducible rfl)
          try simp only [Act.put, List.setIfInBounds_toArray, List.set_cons_zero, List.set_cons_succ]
          refine wpAnyH_take (i := 4) (oi := { dst := some 91, op := Op.fieldAddr 31 (Operand.tmp 3) 1, type := 0, pos := "laws.go:417", after := #[{ on := 2, ground := Ground.guard }], guard := some (2, true) }) (v := ?_) rfl (by kernel_rfl) (by kernel_rfl) (by kernel_rfl) (fun _ _ _ h => h) (Or.inl ⟨by rfl, ?_⟩) (by assumption) ?_; rotate_left
          · intro W hW; (try dsimp only at hW); go_simp;  try (with_reducible rfl)
          try simp only [Act.put, List.setIfInBounds_toArray, List.set_cons_zero, List.set_cons_succ]
          refine wpAnyH_take (i := 5) (oi := { dst := some 92, op := Op.load 29 (Operand.tmp 91), type := 29, pos := "laws.go:417", after := #[{ on := 4, ground := Ground.data }, { on := 2, ground := Ground.guard }], guard := some (2, true) }) (v := ?_) rfl (by kernel_rfl) (by kernel_rfl) (by kernel_rfl) (fun _ _ _ h => h) (Or.inl ⟨by rfl, ?_⟩) (by assumption) ?_; rotate_left
          · intro W hW; (try dsimp only at hW); go_simp;  try (with_reducible rfl)
          try simp only [Act.put, List.setIfInBounds_toArray, List.set_cons_zero, List.set_cons_succ]
          refine wpAnyH_take (i := 6) (oi := { dst := some 93, op := Op.call { callee := Callee.builtin Builtin.len, args := #[Operand.tmp 92], argTypes := #[29] }, type := 3, pos := "laws.go:417", after := #[{ on := 5, ground := Ground.data }, { on := 2, ground := Ground.guard }], guard := some (2, true) }) (v := ?_) rfl (by kernel_rfl) (by kernel_rfl) (by kernel_rfl) (fun _ _ _ h => h) (Or.inl ⟨by rfl, ?_⟩) (by assumption) ?_; rotate_left
          · intro W hW; (try dsimp only at hW); go_simp;  try (with_reducible rfl)
          try simp only [Act.put, List.setIfInBounds_toArray, List.set_cons_zero, List.set_cons_succ]
          refine wpAnyH_take (i := 7) (oi := { dst := some 94, op := Op.binOp BinOp.lss 3 (Operand.tmp 90) (Operand.tmp 93) 3, type := 4, pos := "laws.go:417", after := #[{ on := 3, ground := Ground.data }, { on := 6, ground := Ground.data }, { on := 2, ground := Ground.guard }], guard := some (2, true) }) (v := ?_) rfl (by kernel_rfl) (by kernel_rfl) (by kernel_rfl) (fun _ _ _ h => h) (Or.inl ⟨by rfl, ?_⟩) (by assumption) ?_; rotate_left
          · intro W hW; (try dsimp only at hW); go_simp;  try (with_reducible rfl)
          try simp only [Act.put, List.setIfInBounds_toArray, List.set_cons_zero, List.set_cons_succ]
          refine wpAnyH_take (i := 8) (oi := { dst := some 95, op := Op.pick (Operand.tmp 89) (Operand.tmp 94) (Operand.const (Value.bool false)), type := 4, pos := "laws.go:417", after := #[{ on := 2, ground := Ground.data }, { on := 7, ground := Ground.data }], guard := none }) (v := ?_) rfl (by kernel_rfl) (by kernel_rfl) (by kernel_rfl) (fun _ _ _ h => h) (Or.inl ⟨by rfl, ?_⟩) (by assumption) ?_; rotate_left
          · intro W hW; (try dsimp only at hW); go_simp;  try (with_reducible rfl)
          try simp only [Act.put, List.setIfInBounds_toArray, List.set_cons_zero, List.set_cons_succ]
          refine wpAnyH_take (i := 9) (oi := { dst := some 96, op := Op.move (Operand.tmp 95), type := 4, pos := "laws.go:417", after := #[{ on := 8, ground := Ground.data }, { on := 2, ground := Ground.chain }], guard := none }) (v := ?_) rfl (by kernel_rfl) (by kernel_rfl) (by kernel_rfl) (fun _ _ _ h => h) (Or.inl ⟨by rfl, ?_⟩) (by assumption) ?_; rotate_left
          · intro W hW; (try dsimp only at hW); go_simp;  try (with_reducible rfl)
          try simp only [Act.put, List.setIfInBounds_toArray, List.set_cons_zero, List.set_cons_succ]
          refine wpAnyH_take (i := 10) (oi := { dst := some 97, op := Op.move (Operand.tmp 5), type := 9, pos := "laws.go:417", after := #[{ on := 9, ground := Ground.guard }], guard := some (9, true) }) (v := ?_) rfl (by kernel_rfl) (by kernel_rfl) (by kernel_rfl) (fun _ _ _ h => h) (Or.inl ⟨by rfl, ?_⟩) (by assumption) ?_; rotate_left
          · intro W hW; (try dsimp only at hW); go_simp;  try (with_reducible rfl)
          try simp only [Act.put, List.setIfInBounds_toArray, List.set_cons_zero, List.set_cons_succ]
          refine wpAnyH_take (i := 11) (oi := { dst := some 98, op := Op.load 31 (Operand.tmp 3), type := 31, pos := "laws.go:417", after := #[{ on := 9, ground := Ground.guard }], guard := some (9, true) }) (v := ?_) rfl (by kernel_rfl) (by kernel_rfl) (by kernel_rfl) (fun _ _ _ h => h) (Or.inl ⟨by rfl, ?_⟩) (by assumption) ?_; rotate_left
          · intro W hW; (try dsimp only at hW); go_simp;  try (with_reducible rfl)
          try simp only [Act.put, List.setIfInBounds_toArray, List.set_cons_zero, List.set_cons_succ]
          refine wpAnyH_take (i := 12) (oi := { dst := some 99, op := Op.fieldAddr 31 (Operand.tmp 3) 1, type := 0, pos := "laws.go:417", after := #[{ on := 9, ground := Ground.guard }], guard := some (9, true) }) (v := ?_) rfl (by kernel_rfl) (by kernel_rfl) (by kernel_rfl) (fun _ _ _ h => h) (Or.inl ⟨by rfl, ?_⟩) (by assumption) ?_; rotate_left
          · intro W hW; (try dsimp only at hW); go_simp;  try (with_reducible rfl)
          try simp only [Act.put, List.setIfInBounds_toArray, List.set_cons_zero, List.set_cons_succ]
          refine wpAnyH_take (i := 13) (oi := { dst := some 100, op := Op.load 29 (Operand.tmp 99), type := 29, pos := "laws.go:417", after := #[{ on := 12, ground := Ground.data }, { on := 9, ground := Ground.guard }], guard := some (9, true) }) (v := ?_) rfl (by kernel_rfl) (by kernel_rfl) (by kernel_rfl) (fun _ _ _ h => h) (Or.inl ⟨by rfl, ?_⟩) (by assumption) ?_; rotate_left
          · intro W hW; (try dsimp only at hW); go_simp;  try (with_reducible rfl)
          try simp only [Act.put, List.setIfInBounds_toArray, List.set_cons_zero, List.set_cons_succ]
          refine wpAnyH_take (i := 14) (oi := { dst := some 101, op := Op.move (Operand.tmp 9), type := 3, pos := "laws.go:417", after := #[{ on := 9, ground := Ground.guard }], guard := some (9, true) }) (v := ?_) rfl (by kernel_rfl) (by kernel_rfl) (by kernel_rfl) (fun _ _ _ h => h) (Or.inl ⟨by rfl, ?_⟩) (by assumption) ?_; rotate_left
          · intro W hW; (try dsimp only at hW); go_simp;  try (with_reducible rfl)
          try simp only [Act.put, List.setIfInBounds_toArray, List.set_cons_zero, List.set_cons_succ]
          refine wpAnyH_take (i := 15) (oi := { dst := some 102, op := Op.indexAddr 29 (Operand.tmp 100) (Operand.tmp 101), type := 0, pos := "laws.go:417", after := #[{ on := 13, ground := Ground.data }, { on := 14, ground := Ground.data }, { on := 9, ground := Ground.guard }], guard := some (9, true) }) (v := ?_) rfl (by kernel_rfl) (by kernel_rfl) (by kernel_rfl) (fun _ _ _ h => h) (Or.inl ⟨by rfl, ?_⟩) (by assumption) ?_; rotate_left
          · intro W hW; (try dsimp only at hW); go_simp;  try (with_reducible rfl)
          try simp only [Act.put, List.setIfInBounds_toArray, List.set_cons_zero, List.set_cons_succ]
          refine wpAnyH_take (i := 16) (oi := { dst := some 103, op := Op.fieldAddr 63 (Operand.tmp 102) 0, type := 0, pos := "laws.go:417", after := #[{ on := 15, ground := Ground.data }, { on := 9, ground := Ground.guard }], guard := some (9, true) }) (v := ?_) rfl (by kernel_rfl) (by kernel_rfl) (by kernel_rfl) (fun _ _ _ h => h) (Or.inl ⟨by rfl, ?_⟩) (by assumption) ?_; rotate_left
          · intro W hW; (try dsimp only at hW); go_simp;  try (with_reducible rfl)
          try simp only [Act.put, List.setIfInBounds_toArray, List.set_cons_zero, List.set_cons_succ]
          refine wpAnyH_take (i := 17) (oi := { dst := some 104, op := Op.load 3 (Operand.tmp 103), type := 3, pos := "laws.go:417", after := #[{ on := 16, ground := Ground.data }, { on := 9, ground := Ground.guard }], guard := some (9, true) }) (v := ?_) rfl (by kernel_rfl) (by kernel_rfl) (by kernel_rfl) (fun _ _ _ h => h) (Or.inl ⟨by rfl, ?_⟩) (by assumption) ?_; rotate_left
          · intro W hW; (try dsimp only at hW); go_simp;  try (with_reducible rfl)
          try simp only [Act.put, List.setIfInBounds_toArray, List.set_cons_zero, List.set_cons_succ]
          refine wpAnyH_take (i := 19) (oi := { dst := some 106, op := Op.fieldAddr 31 (Operand.tmp 3) 1, type := 0, pos := "laws.go:417", after := #[{ on := 9, ground := Ground.guard }], guard := some (9, true) }) (v := ?_) rfl (by kernel_rfl) (by kernel_rfl) (by kernel_rfl) (fun _ _ _ h => h) (Or.inl ⟨by rfl, ?_⟩) (by assumption) ?_; rotate_left
          · intro W hW; (try dsimp only at hW); go_simp;  try (with_reducible rfl)
          try simp only [Act.put, List.setIfInBounds_toArray, List.set_cons_zero, List.set_cons_succ]
          refine wpAnyH_take (i := 20) (oi := { dst := some 107, op := Op.load 29 (Operand.tmp 106), type := 29, pos := "laws.go:417", after := #[{ on := 19, ground := Ground.data }, { on := 9, ground := Ground.guard }], guard := some (9, true) }) (v := ?_) rfl (by kernel_rfl) (by kernel_rfl) (by kernel_rfl) (fun _ _ _ h => h) (Or.inl ⟨by rfl, ?_⟩) (by assumption) ?_; rotate_left
          · intro W hW; (try dsimp only at hW); go_simp;  try (with_reducible rfl)
          try simp only [Act.put, List.setIfInBounds_toArray, List.set_cons_zero, List.set_cons_succ]
          refine wpAnyH_take (i := 21) (oi := { dst := some 108, op := Op.move (Operand.tmp 9), type := 3, pos := "laws.go:417", after := #[{ on := 9, ground := Ground.guard }], guard := some (9, true) }) (v := ?_) rfl (by kernel_rfl) (by kernel_rfl) (by kernel_rfl) (fun _ _ _ h => h) (Or.inl ⟨by rfl, ?_⟩) (by assumption) ?_; rotate_left
          · intro W hW; (try dsimp only at hW); go_simp;  try (with_reducible rfl)
          try simp only [Act.put, List.setIfInBounds_toArray, List.set_cons_zero, List.set_cons_succ]
          refine wpAnyH_take (i := 22) (oi := { dst := some 109, op := Op.indexAddr 29 (Operand.tmp 107) (Operand.tmp 108), type := 0, pos := "laws.go:417", after := #[{ on := 20, ground := Ground.data }, { on := 21, ground := Ground.data }, { on := 9, ground := Ground.guard }], guard := some (9, true) }) (v := ?_) rfl (by kernel_rfl) (by kernel_rfl) (by kernel_rfl) (fun _ _ _ h => h) (Or.inl ⟨by rfl, ?_⟩) (by assumption) ?_; rotate_left
          · intro W hW; (try dsimp only at hW); go_simp;  try (with_reducible rfl)
          try simp only [Act.put, List.setIfInBounds_toArray, List.set_cons_zero, List.set_cons_succ]
          refine wpAnyH_take (i := 23) (oi := { dst := some 110, op := Op.fieldAddr 63 (Operand.tmp 109) 1, type := 0, pos := "laws.go:417", after := #[{ on := 22, ground := Ground.data }, { on := 9, ground := Ground.guard }], guard := some (9, true) }) (v := ?_) rfl (by kernel_rfl) (by kernel_rfl) (by kernel_rfl) (fun _ _ _ h => h) (Or.inl ⟨by rfl, ?_⟩) (by assumption) ?_; rotate_left
          · intro W hW; (try dsimp only at hW); go_simp;  try (with_reducible rfl)
          try simp only [Act.put, List.setIfInBounds_toArray, List.set_cons_zero, List.set_cons_succ]
          refine wpAnyH_take (i := 24) (oi := { dst := some 111, op := Op.load 3 (Operand.tmp 110), type := 3, pos := "laws.go:417", after := #[{ on := 23, ground := Ground.data }, { on := 9, ground := Ground.guard }], guard := some (9, true) }) (v := ?_) rfl (by kernel_rfl) (by kernel_rfl) (by kernel_rfl) (fun _ _ _ h => h) (Or.inl ⟨by rfl, ?_⟩) (by assumption) ?_; rotate_left
          · intro W hW; (try dsimp only at hW); go_simp;  try (with_reducible rfl)
          try simp only [Act.put, List.setIfInBounds_toArray, List.set_cons_zero, List.set_cons_succ]
          refine wpAnyH_take (i := 25) (oi := { dst := some 112, op := Op.convert 3 5 (Operand.tmp 111), type := 5, pos := "laws.go:417", after := #[{ on := 24, ground := Ground.data }, { on := 9, ground := Ground.guard }], guard := some (9, true) }) (v := ?_) rfl (by kernel_rfl) (by kernel_rfl) (by kernel_rfl) (fun _ _ _ h => h) (Or.inl ⟨by rfl, ?_⟩) (by assumption) ?_; rotate_left
          · intro W hW; (try dsimp only at hW); go_simp;  try (with_reducible rfl)
          try simp only [Act.put, List.setIfInBounds_toArray, List.set_cons_zero, List.set_cons_succ]
          refine wpAnyH_ready (rs := [18, 26]) (by kernel_rfl) (by simp) (AllReadyH.cons (i := 18) (o := { dst := some 105, op := Op.call { callee := Callee.value (Operand.func 33), args := #[Operand.tmp 98, Operand.tmp 104], argTypes := #[31, 3] }, type := 9, pos := "laws.go:417", after := #[{ on := 11, ground := Ground.data }, { on := 17, ground := Ground.data }, { on := 9, ground := Ground.chain }, { on := 9, ground := Ground.guard }], guard := some (9, true) }) rfl (fun K hK => ?_) (AllReadyH.cons (i := 26) (o := { dst := some 113, op := Op.buildSlice 48 1 #[(0, Operand.tmp 112)], type := 48, pos := "laws.go:417", after := #[{ on := 25, ground := Ground.data }, { on := 9, ground := Ground.guard }], guard := some (9, true) }) rfl (fun K hK => ?_) AllReadyH.nil))
          · skip
            go_simp
            refine ((unhide CT) _ ((P6.below hHeld.1).pr (Nat.le_refl _))).mono ?_; rintro e y1 ⟨rfl, hb⟩
            try go_wp2_with fail
            refine hK.out _ _ (by (try dsimp only); first | assumption | exact s14 | exact keep8 hb hHeld) (fun hHeld => ?_)
            clear hK K
            try simp only [Act.put, List.setIfInBounds_toArray, List.set_cons_zero, List.set_cons_succ]
            refine wpAnyH_ready (rs := [26]) (by kernel_rfl) (by simp) (AllReadyH.cons (i := 26) (o := { dst := some 113, op := Op.buildSlice 48 1 #[(0, Operand.tmp 112)], type := 48, pos := "laws.go:417", after := #[{ on := 25, ground := Ground.data }, { on := 9, ground := Ground.guard }], guard := some (9, true) }) rfl (fun K hK => ?_) AllReadyH.nil)
            go_simp
            have NB := Blk.new y1 5 #[.int .u8 (v.toNat : Int)]
            refine hK.out _ _ (by (try dsimp only); first | exact keep8 ((Below.refl _ _).alloc (Nat.le_refl _) _) hHeld) (fun hHeld => ?_)
            clear hK K
            try simp only [Act.put, List.setIfInBounds_toArray, List.set_cons_zero, List.set_cons_succ]
            refine wpAnyH_ready (rs := [27]) (by kernel_rfl) (by simp) (AllReadyH.cons (i := 27) (o := { dst := some 114, op := Op.convert 48 9 (Operand.tmp 113), type := 9, pos := "laws.go:417", after := #[{ on := 26, ground := Ground.data }, { on := 9, ground := Ground.guard }], guard := some (9, true) }) rfl (fun K hK => ?_) AllReadyH.nil)
            have hcv := run_blk1 NB
            go_simp
            refine hK.out _ _ (by (try dsimp only); first | assumption | exact s14 | exact keep8 hb hHeld) (fun hHeld => ?_)
            clear hK K
            try simp only [Act.put, List.setIfInBounds_toArray, List.set_cons_zero, List.set_cons_succ]
            refine wpAnyH_take (i := 28) (oi := { dst := some 115, op := Op.binOp BinOp.add 9 (Operand.tmp 105) (Operand.tmp 114) 9, type := 9, pos := "laws.go:417", after := #[{ on := 18, ground := Ground.data }, { on := 27, ground := Ground.data }, { on := 9, ground := Ground.guard }], guard := some (9, true) }) (v := ?_) rfl (by kernel_rfl) (by kernel_rfl) (by kernel_rfl) (fun _ _ _ h => h) (Or.inl ⟨by rfl, ?_⟩) (by assumption) ?_; rotate_left
            · intro W hW; (try dsimp only at hW); go_simp;  try (with_reducible rfl)
            try simp only [Act.put, List.setIfInBounds_toArray, List.set_cons_zero, List.set_cons_succ]
            refine wpAnyH_take (i := 29) (oi := { dst := some 116, op := Op.binOp BinOp.eql 9 (Operand.tmp 97) (Operand.tmp 115) 9, type := 4, pos := "laws.go:417", after := #[{ on := 10, ground := Ground.data }, { on := 28, ground := Ground.data }, { on := 9, ground := Ground.guard }], guard := some (9, true) }) (v := ?_) rfl (by kernel_rfl) (by kernel_rfl) (by kernel_rfl) (fun _ _ _ h => h) (Or.inl ⟨by rfl, ?_⟩) (by assumption) ?_; rotate_left
            · intro W hW; (try dsimp only at hW); go_simp;  try (with_reducible rfl)
            try simp only [Act.put, List.setIfInBounds_toArray, List.set_cons_zero, List.set_cons_succ]
            refine wpAnyH_take (i := 30) (oi := { dst := some 117, op := Op.pick (Operand.tmp 96) (Operand.tmp 116) (Operand.const (Value.bool false)), type := 4, pos := "laws.go:417", after := #[{ on := 9, ground := Ground.data }, { on := 29, ground := Ground.data }], guard := none }) (v := ?_) rfl (by kernel_rfl) (by kernel_rfl) (by kernel_rfl) (fun _ _ _ h => h) (Or.inl ⟨by rfl, ?_⟩) (by assumption) ?_; rotate_left
            · intro W hW; (try dsimp only at hW); go_simp;  try (with_reducible rfl)
            try simp only [Act.put, List.setIfInBounds_toArray, List.set_cons_zero, List.set_cons_succ]
            refine wpAnyH_take (i := 31) (oi := { dst := some 2, op := Op.assign (Operand.tmp 117), type := 4, pos := "laws.go:417", after := #[{ on := 30, ground := Ground.data }, { on := 18, ground := Ground.chain }, { on := 0, ground := Ground.phase }, { on := 1, ground := Ground.phase }, { on := 2, ground := Ground.phase }, { on := 3, ground := Ground.phase }, { on := 4, ground := Ground.phase }, { on := 5, ground := Ground.phase }, { on := 6, ground := Ground.phase }, { on := 7, ground := Ground.phase }, { on := 8, ground := Ground.phase }, { on := 9, ground := Ground.phase }, { on := 10, ground := Ground.phase }, { on := 11, ground := Ground.phase }, { on := 12, ground := Ground.phase }, { on := 13, ground := Ground.phase }, { on := 14, ground := Ground.phase }, { on := 15, ground := Ground.phase }, { on := 16, ground := Ground.phase }, { on := 17, ground := Ground.phase }, { on := 18, ground := Ground.phase }, { on := 19, ground := Ground.phase }, { on := 20, ground := Ground.phase }, { on := 21, ground := Ground.phase }, { on := 22, ground := Ground.phase }, { on := 23, ground := Ground.phase }, { on := 24, ground := Ground.phase }, { on := 25, ground := Ground.phase }, { on := 26, ground := Ground.phase }, { on := 27, ground := Ground.phase }, { on := 28, ground := Ground.phase }, { on := 29, ground := Ground.phase }, { on := 30, ground := Ground.phase }], guard := none }) (v := ?_) rfl (by kernel_rfl) (by kernel_rfl) (by kernel_rfl) (fun _ _ _ h => h) (Or.inl ⟨by rfl, ?_⟩) (by assumption) ?_; rotate_left
            · intro W hW; (try dsimp only at hW); go_simp;  try (with_reducible rfl)
            try simp only [Act.put, List.setIfInBounds_toArray, List.set_cons_zero, List.set_cons_succ]
            refine wpAnyH_done (by kernel_rfl) ?_ _
            go_wp2_with fail
            go_ret
            exact ⟨rfl, below_next (Nat.le_refl _) B6 hHeld.1⟩
          · skip
            go_simp
            have NB : Blk (w5.alloc (.cells #[.int .u8 (v.toNat : Int)] 5)).drew w5.heap.size 5 #[.int .u8 (v.toNat : Int)] := Blk.drew (Blk.new w5 5 #[.int .u8 (v.toNat : Int)])
            refine hK.out _ _ (by (try dsimp only); first | exact keep8 ((Below.refl _ _).alloc (Nat.le_refl _) _) hHeld) (fun hHeld => ?_)
            clear hK K
            try simp only [Act.put, List.setIfInBounds_toArray, List.set_cons_zero, List.set_cons_succ]
            refine wpAnyH_ready (rs := [18, 27]) (by kernel_rfl) (by simp) (AllReadyH.cons (i := 18) (o := { dst := some 105, op := Op.call { callee := Callee.value (Operand.func 33), args := #[Operand.tmp 98, Operand.tmp 104], argTypes := #[31, 3] }, type := 9, pos := "laws.go:417", after := #[{ on := 11, ground := Ground.data }, { on := 17, ground := Ground.data }, { on := 9, ground := Ground.chain }, { on := 9, ground := Ground.guard }], guard := some (9, true) }) rfl (fun K hK => ?_) (AllReadyH.cons (i := 27) (o := { dst := some 114, op := Op.convert 48 9 (Operand.tmp 113), type := 9, pos := "laws.go:417", after := #[{ on := 26, ground := Ground.data }, { on := 9, ground := Ground.guard }], guard := some (9, true) }) rfl (fun K hK => ?_) AllReadyH.nil))
            · skip
              go_simp
              refine ((unhide CT) _ ((P6.below hHeld.1).pr (Nat.le_refl _))).mono ?_; rintro e y1 ⟨rfl, hb⟩
              have NB := NB.below hb NB.lt
              try go_wp2_with fail
              refine hK.out _ _ (by (try dsimp only); first | assumption | exact s14 | exact keep8 hb hHeld) (fun hHeld => ?_)
              clear hK K
              try simp only [Act.put, List.setIfInBounds_toArray, List.set_cons_zero, List.set_cons_succ]
              refine wpAnyH_ready (rs := [27]) (by kernel_rfl) (by simp) (AllReadyH.cons (i := 27) (o := { dst := some 114, op := Op.convert 48 9 (Operand.tmp 113), type := 9, pos := "laws.go:417", after := #[{ on := 26, ground := Ground.data }, { on := 9, ground := Ground.guard }], guard := some (9, true) }) rfl (fun K hK => ?_) AllReadyH.nil)
              have hcv := run_blk1 NB
              go_simp
              refine hK.out _ _ (by (try dsimp only); first | assumption | exact s14 | exact keep8 hb hHeld) (fun hHeld => ?_)
              clear hK K
              try simp only [Act.put, List.setIfInBounds_toArray, List.set_cons_zero, List.set_cons_succ]
              refine wpAnyH_take (i := 28) (oi := { dst := some 115, op := Op.binOp BinOp.add 9 (Operand.tmp 105) (Operand.tmp 114) 9, type := 9, pos := "laws.go:417", after := #[{ on := 18, ground := Ground.data }, { on := 27, ground := Ground.data }, { on := 9, ground := Ground.guard }], guard := some (9, true) }) (v := ?_) rfl (by kernel_rfl) (by kernel_rfl) (by kernel_rfl) (fun _ _ _ h => h) (Or.inl ⟨by rfl, ?_⟩) (by assumption) ?_; rotate_left
              · intro W hW; (try dsimp only at hW); go_simp;  try (with_reducible rfl)
              try simp only [Act.put, List.setIfInBounds_toArray, List.set_cons_zero, List.set_cons_succ]
              refine wpAnyH_take (i := 29) (oi := { dst := some 116, op := Op.binOp BinOp.eql 9 (Operand.tmp 97) (Operand.tmp 115) 9, type := 4, pos := "laws.go:417", after := #[{ on := 10, ground := Ground.data }, { on := 28, ground := Ground.data }, { on := 9, ground := Ground.guard }], guard := some (9, true) }) (v := ?_) rfl (by kernel_rfl) (by kernel_rfl) (by kernel_rfl) (fun _ _ _ h => h) (Or.inl ⟨by rfl, ?_⟩) (by assumption) ?_; rotate_left
              · intro W hW; (try dsimp only at hW); go_simp;  try (with_reducible rfl)
              try simp only [Act.put, List.setIfInBounds_toArray, List.set_cons_zero, List.set_cons_succ]
              refine wpAnyH_take (i := 30) (oi := { dst := some 117, op := Op.pick (Operand.tmp 96) (Operand.tmp 116) (Operand.const (Value.bool false)), type := 4, pos := "laws.go:417", after := #[{ on := 9, ground := Ground.data }, { on := 29, ground := Ground.data }], guard := none }) (v := ?_) rfl (by kernel_rfl) (by kernel_rfl) (by kernel_rfl) (fun _ _ _ h => h) (Or.inl ⟨by rfl, ?_⟩) (by assumption) ?_; rotate_left
              · intro W hW; (try dsimp only at hW); go_simp;  try (with_reducible rfl)
              try simp only [Act.put, List.setIfInBounds_toArray, List.set_cons_zero, List.set_cons_succ]
              refine wpAnyH_take (i := 31) (oi := { dst := some 2, op := Op.assign (Operand.tmp 117), type := 4, pos := "laws.go:417", after := #[{ on := 30, ground := Ground.data }, { on := 18, ground := Ground.chain }, { on := 0, ground := Ground.phase }, { on := 1, ground := Ground.phase }, { on := 2, ground := Ground.phase }, { on := 3, ground := Ground.phase }, { on := 4, ground := Ground.phase }, { on := 5, ground := Ground.phase }, { on := 6, ground := Ground.phase }, { on := 7, ground := Ground.phase }, { on := 8, ground := Ground.phase }, { on := 9, ground := Ground.phase }, { on := 10, ground := Ground.phase }, { on := 11, ground := Ground.phase }, { on := 12, ground := Ground.phase }, { on := 13, ground := Ground.phase }, { on := 14, ground := Ground.phase }, { on := 15, ground := Ground.phase }, { on := 16, ground := Ground.phase }, { on := 17, ground := Ground.phase }, { on := 18, ground := Ground.phase }, { on := 19, ground := Ground.phase }, { on := 20, ground := Ground.phase }, { on := 21, ground := Ground.phase }, { on := 22, ground := Ground.phase }, { on := 23, ground := Ground.phase }, { on := 24, ground := Ground.phase }, { on := 25, ground := Ground.phase }, { on := 26, ground := Ground.phase }, { on := 27, ground := Ground.phase }, { on := 28, ground := Ground.phase }, { on := 29, ground := Ground.phase }, { on := 30, ground := Ground.phase }], guard := none }) (v := ?_) rfl (by kernel_rfl) (by kernel_rfl) (by kernel_rfl) (fun _ _ _ h => h) (Or.inl ⟨by rfl, ?_⟩) (by assumption) ?_; rotate_left
              · intro W hW; (try dsimp only at hW); go_simp;  try (with_reducible rfl)
              try simp only [Act.put, List.setIfInBounds_toArray, List.set_cons_zero, List.set_cons_succ]
              refine wpAnyH_done (by kernel_rfl) ?_ _
              go_wp2_with fail
              go_ret
              exact ⟨rfl, below_next (Nat.le_refl _) B6 hHeld.1⟩
            · skip
              have hcv := run_blk1 NB
              go_simp
              refine hK.out _ _ (by (try dsimp only); first | assumption | exact s14 | exact keep8 hb hHeld) (fun hHeld => ?_)
              clear hK K
              try simp only [Act.put, List.setIfInBounds_toArray, List.set_cons_zero, List.set_cons_succ]
              refine wpAnyH_ready (rs := [18]) (by kernel_rfl) (by simp) (AllReadyH.cons (i := 18) (o := { dst := some 105, op := Op.call { callee := Callee.value (Operand.func 33), args := #[Operand.tmp 98, Operand.tmp 104], argTypes := #[31, 3] }, type := 9, pos := "laws.go:417", after := #[{ on := 11, ground := Ground.data }, { on := 17, ground := Ground.data }, { on := 9, ground := Ground.chain }, { on := 9, ground := Ground.guard }], guard := some (9, true) }) rfl (fun K hK => ?_) AllReadyH.nil)
              go_simp
              refine ((unhide CT) _ ((P6.below hHeld.1).pr (Nat.le_refl _))).mono ?_; rintro e y1 ⟨rfl, hb⟩
              have NB := NB.below hb NB.lt
              try go_wp2_with fail
              refine hK.out _ _ (by (try dsimp only); first | assumption | exact s14 | exact keep8 hb hHeld) (fun hHeld => ?_)
              clear hK K
              try simp only [Act.put, List.setIfInBounds_toArray, List.set_cons_zero, List.set_cons_succ]
              refine wpAnyH_take (i := 28) (oi := { dst := some 115, op := Op.binOp BinOp.add 9 (Operand.tmp 105) (Operand.tmp 114) 9, type := 9, pos := "laws.go:417", after := #[{ on := 18, ground := Ground.data }, { on := 27, ground := Ground.data }, { on := 9, ground := Ground.guard }], guard := some (9, true) }) (v := ?_) rfl (by kernel_rfl) (by kernel_rfl) (by kernel_rfl) (fun _ _ _ h => h) (Or.inl ⟨by rfl, ?_⟩) (by assumption) ?_; rotate_left
              · intro W hW; (try dsimp only at hW); go_simp;  try (with_reducible rfl)
              try simp only [Act.put, List.setIfInBounds_toArray, List.set_cons_zero, List.set_cons_succ]
              refine wpAnyH_take (i := 29) (oi := { dst := some 116, op := Op.binOp BinOp.eql 9 (Operand.tmp 97) (Operand.tmp 115) 9, type := 4, pos := "laws.go:417", after := #[{ on := 10, ground := Ground.data }, { on := 28, ground := Ground.data }, { on := 9, ground := Ground.guard }], guard := some (9, true) }) (v := ?_) rfl (by kernel_rfl) (by kernel_rfl) (by kernel_rfl) (fun _ _ _ h => h) (Or.inl ⟨by rfl, ?_⟩) (by assumption) ?_; rotate_left
              · intro W hW; (try dsimp only at hW); go_simp;  try (with_reducible rfl)
              try simp only [Act.put, List.setIfInBounds_toArray, List.set_cons_zero, List.set_cons_succ]
              refine wpAnyH_take (i := 30) (oi := { dst := some 117, op := Op.pick (Operand.tmp 96) (Operand.tmp 116) (Operand.const (Value.bool false)), type := 4, pos := "laws.go:417", after := #[{ on := 9, ground := Ground.data }, { on := 29, ground := Ground.data }], guard := none }) (v := ?_) rfl (by kernel_rfl) (by kernel_rfl) (by kernel_rfl) (fun _ _ _ h => h) (Or.inl ⟨by rfl, ?_⟩) (by assumption) ?_; rotate_left
              · intro W hW; (try dsimp only at hW); go_simp;  try (with_reducible rfl)
              try simp only [Act.put, List.setIfInBounds_toArray, List.set_cons_zero, List.set_cons_succ]
              refine wpAnyH_take (i := 31) (oi := { dst := some 2, op := Op.assign (Operand.tmp 117), type := 4, pos := "laws.go:417", after := #[{ on := 30, ground := Ground.data }, { on := 18, ground := Ground.chain }, { on := 0, ground := Ground.phase }, { on := 1, ground := Ground.phase }, { on := 2, ground := Ground.phase }, { on := 3, ground := Ground.phase }, { on := 4, ground := Ground.phase }, { on := 5, ground := Ground.phase }, { on := 6, ground := Ground.phase }, { on := 7, ground := Ground.phase }, { on := 8, ground := Ground.phase }, { on := 9, ground := Ground.phase }, { on := 10, ground := Ground.phase }, { on := 11, ground := Ground.phase }, { on := 12, ground := Ground.phase }, { on := 13, ground := Ground.phase }, { on := 14, ground := Ground.phase }, { on := 15, ground := Ground.phase }, { on := 16, ground := Ground.phase }, { on := 17, ground := Ground.phase }, { on := 18, ground := Ground.phase }, { on := 19, ground := Ground.phase }, { on := 20, ground := Ground.phase }, { on := 21, ground := Ground.phase }, { on := 22, ground := Ground.phase }, { on := 23, ground := Ground.phase }, { on := 24, ground := Ground.phase }, { on := 25, ground := Ground.phase }, { on := 26, ground := Ground.phase }, { on := 27, ground := Ground.phase }, { on := 28, ground := Ground.phase }, { on := 29, ground := Ground.phase }, { on := 30, ground := Ground.phase }], guard := none }) (v := ?_) rfl (by kernel_rfl) (by kernel_rfl) (by kernel_rfl) (fun _ _ _ h => h) (Or.inl ⟨by rfl, ?_⟩) (by assumption) ?_; rotate_left
              · intro W hW; (try dsimp only at hW); go_simp;  try (with_reducible rfl)
              try simp only [Act.put, List.setIfInBounds_toArray, List.set_cons_zero, List.set_cons_succ]
              refine wpAnyH_done (by kernel_rfl) ?_ _
              go_wp2_with fail
              go_ret
              exact ⟨rfl, below_next (Nat.le_refl _) B6 hHeld.1⟩
  · have B0 : Below w.heap.size w w := Below.refl _ _
    have hnI : (1048576 : Int) < (n : Int) := by omega
    go_enter Try.func9, Try.ntmps9
    go_wp2_with fail
    go_ret
    exact ⟨rfl, B0⟩

end Go.Proofs.Ytegfcpdkehgdpaa

/- The walks of the words of codes that can follow, and of WordOf. Conditions: the pairs' cells lie below the call's own memory. -/
import Derived.Test.YtegfcpdkehgdpaaW2
import Derived.Test.YtegfcpdkehgdpaaK5
namespace Go.Proofs.Ytegfcpdkehgdpaa
open Go.RowKit

/-- A code that is neither the clear code nor the end code, and can follow. -/
def Sx.canB (l m : Int) (n : Nat) (t x : Int) : Bool := Sx.codeB l n x || (Sx.growsB l m n t && decide (x = Sx.two l + 2 + (n : Int)))
def Sx.folB (l m : Int) (n : Nat) (t x : Int) : Bool := decide (0 ≤ x) && decide (x ≤ Sx.greatI l m n t)
def Sx.anyW (l : Int) (ps : List (Int × Int)) (t x : Int) : List UInt8 := if x = Sx.two l + 2 + (ps.length : Int) then Sx.word l ps t ++ (Sx.word l ps t).take 1 else Sx.word l ps x
theorem Sx.any_next {l t x : Int} {ps : List (Int × Int)} (h : x = Sx.two l + 2 + (ps.length : Int)) : Sx.anyW l ps t x = Sx.word l ps t ++ (Sx.word l ps t).take 1 := if_pos h
theorem Sx.any_else {l t x : Int} {ps : List (Int × Int)} (h : x ≠ Sx.two l + 2 + (ps.length : Int)) : Sx.anyW l ps t x = Sx.word l ps x := if_neg h
theorem Sx.any_length (l : Int) (ps : List (Int × Int)) (t x : Int) : 1 ≤ (Sx.anyW l ps t x).length ∧ (Sx.anyW l ps t x).length ≤ ps.length + 2 := by
  have h1 := Sx.word_length l ps x
  have h2 := Sx.word_length l ps t
  unfold Sx.anyW; split
  · rw [List.length_append, List.length_take]; omega
  · omega
theorem str_first (l : List UInt8) : str l ++ (str l).extract 0 1 = str (l ++ l.take 1) := by
  have h : (str l).extract 0 1 = str (l.take 1) := by
    rw [← str_self ((str l).extract 0 1), Lib.extract_data (str l) 0 1, str_data]; rfl
  rw [h, str_append]
theorem Sx.grows_of {l m : Int} {n : Nat} {t : Int} (h : Sx.growsB l m n t = true) : 0 ≤ t ∧ Sx.two l + 2 + (n : Int) ≤ Sx.two m - 1 := by simpa only [Sx.growsB, decide_eq_true_iff] using h
theorem Sx.can_of {l m : Int} {n : Nat} {t x : Int} (h : Sx.canB l m n t x = true) : (Sx.codeB l n x = true ∧ x ≠ Sx.two l + 2 + (n : Int)) ∨ (Sx.growsB l m n t = true ∧ x = Sx.two l + 2 + (n : Int)) := by
  have t1 := Sx.two_pos l
  simp only [Sx.canB, Bool.or_eq_true, Bool.and_eq_true, decide_eq_true_iff] at h
  rcases h with h | h
  · have := Sx.codeB_of h; exact .inl ⟨h, by omega⟩
  · exact .inr h
theorem Sx.can_mk (l m : Int) (n : Nat) (t x : Int) : Sx.canB l m n t x = (Sx.folB l m n t x && decide (x ≠ Sx.two l) && decide (x ≠ Sx.two l + 1)) := by
  have t1 := Sx.two_pos l
  rw [Bool.eq_iff_iff]
  simp only [Sx.canB, Sx.folB, Sx.codeB, Bool.or_eq_true, Bool.and_eq_true, decide_eq_true_iff]
  by_cases hg : Sx.growsB l m n t = true
  · rw [Sx.great_yes hg]; simp only [hg, true_and]; omega
  · have hg : Sx.growsB l m n t = false := by simpa using hg
    rw [Sx.great_no hg]; simp only [hg, Bool.false_eq_true, false_and, or_false]; omega

set_option maxRecDepth 100000 in
set_option maxHeartbeats 4000000 in
theorem spec_l2Any (o l m : Int) (A : Option Addr) (c : Nat) (b t x : Int) (ps : List (Int × Int)) (w : World) (hr : PR w w.heap.size A ps) (hl0 : 1 ≤ l) (hl1 : l ≤ 8) (hz : ps.length ≤ 1024) (hp : Sx.pairsOK l ps ps.length = true) (hx : Sx.codeB l ps.length x = true ∨ (x = Sx.two l + 2 + (ps.length : Int) ∧ Sx.codeB l ps.length t = true)) :
    Calls Try.prog 90 #[kv o l m A ps.length c b t, .int .i64 x] w fun e w' => e = .returned (.string (str (Sx.anyW l ps t x))) ∧ Below w.heap.size w w' := by
  have CN := hide (fun wx => spec_l2Next o l m A ps.length c b t wx (by omega) hl1 (by omega))
  have CW := hide (fun y (hy : Sx.codeB l ps.length y = true) w2 (hb : Below w.heap.size w w2) => spec_l2Word o l m A c b t y ps w2 (hr.keep hb.size hb) hl0 hl1 hz hp hy)
  have kb := Blk.new w 31 #[.int .i64 o, .int .i64 l, .int .i64 m, .slice A ps.length c, .int .i64 b, .int .i64 t]
  have s0 : Below w.heap.size w ((w.alloc (.cells #[.int .i64 o, .int .i64 l, .int .i64 m, .slice A ps.length c, .int .i64 b, .int .i64 t] 31))) ∧ ((w.alloc (.cells #[.int .i64 o, .int .i64 l, .int .i64 m, .slice A ps.length c, .int .i64 b, .int .i64 t] 31))).cell? ⟨w.heap.size, 0, none⟩ = some (.int .i64 o) ∧ ((w.alloc (.cells #[.int .i64 o, .int .i64 l, .int .i64 m, .slice A ps.length c, .int .i64 b, .int .i64 t] 31))).cell? ⟨w.heap.size, 1, none⟩ = some (.int .i64 l) ∧ ((w.alloc (.cells #[.int .i64 o, .int .i64 l, .int .i64 m, .slice A ps.length c, .int .i64 b, .int .i64 t] 31))).cell? ⟨w.heap.size, 2, none⟩ = some (.int .i64 m) ∧ ((w.alloc (.cells #[.int .i64 o, .int .i64 l, .int .i64 m, .slice A ps.length c, .int .i64 b, .int .i64 t] 31))).cell? ⟨w.heap.size, 3, none⟩ = some (.slice A ps.length c) ∧ ((w.alloc (.cells #[.int .i64 o, .int .i64 l, .int .i64 m, .slice A ps.length c, .int .i64 b, .int .i64 t] 31))).cell? ⟨w.heap.size, 4, none⟩ = some (.int .i64 b) ∧ ((w.alloc (.cells #[.int .i64 o, .int .i64 l, .int .i64 m, .slice A ps.length c, .int .i64 b, .int .i64 t] 31))).cell? ⟨w.heap.size, 5, none⟩ = some (.int .i64 t) := ⟨((Below.refl _ _).alloc (Nat.le_refl _) _), kb.cell 0, kb.cell 1, kb.cell 2, kb.cell 3, kb.cell 4, kb.cell 5⟩
  clear kb
  by_cases hn : x = Sx.two l + 2 + (ps.length : Int)
  · have ht : Sx.codeB l ps.length t = true := by
      rcases hx with hx | hx
      · have t1 := Sx.two_pos l; have := Sx.codeB_of hx; omega
      · exact hx.2
    have HR := hide (Sx.any_next (t := t) hn)
    have en : (x == Sx.two l + 2 + (ps.length : Int)) = true := by rw [beq_iff_eq]; exact hn
    have HL := Sx.word_length l ps t
    have ht := hide ht
    clear hn hx
    go_enter Try.func90, Try.ntmps90
    go_wp2_with fail
    refine ((unhide CN) _).mono ?_; rintro e w1 ⟨rfl, hb1⟩
    have s1 := keep6 hb1 s0
    clear s0 hb1
    obtain ⟨hB, c0, c1, c2, c3, c4, c5⟩ := s1
    have s1 : Below w.heap.size w w1 ∧ w1.cell? ⟨w.heap.size, 0, none⟩ = some (.int .i64 o) ∧ w1.cell? ⟨w.heap.size, 1, none⟩ = some (.int .i64 l) ∧ w1.cell? ⟨w.heap.size, 2, none⟩ = some (.int .i64 m) ∧ w1.cell? ⟨w.heap.size, 3, none⟩ = some (.slice A ps.length c) ∧ w1.cell? ⟨w.heap.size, 4, none⟩ = some (.int .i64 b) ∧ w1.cell? ⟨w.heap.size, 5, none⟩ = some (.int .i64 t) := ⟨hB, c0, c1, c2, c3, c4, c5⟩
    go_wp2_with fail
    refine ((unhide CW) t ht.out _ hB).mono ?_; rintro e w2 ⟨rfl, hb2⟩
    have B2 := below_next (Nat.le_refl _) hB hb2
    have HF := hide (str_first (Sx.word l ps t))
    have hsz : (str (Sx.word l ps t)).size ≤ 2000 := by rw [str_size]; omega
    have hsz1 : 1 ≤ (str (Sx.word l ps t)).size := by rw [str_size]; omega
    have hsz2 : (str (Sx.word l ps t)).size + ((str (Sx.word l ps t)).extract 0 1).size ≤ 9223372036854775807 := by rw [ByteArray.size_extract]; omega
    clear HL CW s1 hB c0 c1 c2 c3 c4 c5 hb2
    generalize str (Sx.word l ps t) = u at *
    go_wp2_with fail
    go_ret
    exact ⟨ret_str (by rw [HR.out]; exact HF.out), B2⟩
  · have hxc : Sx.codeB l ps.length x = true := by
      rcases hx with hx | hx
      · exact hx
      · exact absurd hx.1 hn
    have HR := hide (Sx.any_else (t := t) hn)
    have en : (x == Sx.two l + 2 + (ps.length : Int)) = false := by rw [beq_eq_false_iff_ne]; exact hn
    have hxc := hide hxc
    clear hn hx
    go_enter Try.func90, Try.ntmps90
    go_wp2_with fail
    refine ((unhide CN) _).mono ?_; rintro e w1 ⟨rfl, hb1⟩
    have s1 := keep6 hb1 s0
    clear s0 hb1
    obtain ⟨hB, c0, c1, c2, c3, c4, c5⟩ := s1
    have s1 : Below w.heap.size w w1 ∧ w1.cell? ⟨w.heap.size, 0, none⟩ = some (.int .i64 o) ∧ w1.cell? ⟨w.heap.size, 1, none⟩ = some (.int .i64 l) ∧ w1.cell? ⟨w.heap.size, 2, none⟩ = some (.int .i64 m) ∧ w1.cell? ⟨w.heap.size, 3, none⟩ = some (.slice A ps.length c) ∧ w1.cell? ⟨w.heap.size, 4, none⟩ = some (.int .i64 b) ∧ w1.cell? ⟨w.heap.size, 5, none⟩ = some (.int .i64 t) := ⟨hB, c0, c1, c2, c3, c4, c5⟩
    go_wp2_with fail
    refine ((unhide CW) x hxc.out _ hB).mono ?_; rintro e w2 ⟨rfl, hb2⟩
    have B2 := below_next (Nat.le_refl _) hB hb2
    go_wp2_with fail
    go_ret
    exact ⟨ret_str (by rw [HR.out]), B2⟩

set_option maxRecDepth 100000 in
set_option maxHeartbeats 4000000 in
theorem spec_l2Follows (o l m : Int) (A : Option Addr) (c : Nat) (b t x : Int) (ps : List (Int × Int)) (w : World) (hl0 : 1 ≤ l) (hl1 : l ≤ 8) (hm0 : 0 ≤ m) (hm1 : m ≤ 10) (hz : ps.length ≤ 1024) :
    Calls Try.prog 58 #[kv o l m A ps.length c b t, .int .i64 x] w fun e w' => e = .returned (.bool (Sx.canB l m ps.length t x)) ∧ Below w.heap.size w w' := by
  have CC := hide (fun wx => spec_l2Code o l m x ps.length wx (by omega) hl1 (by omega))
  have CG := hide (fun wx => spec_l2Grows o l m A ps.length c b t wx (by omega) hl1 hm0 hm1 (by omega))
  have CN := hide (fun wx => spec_l2Next o l m A ps.length c b t wx (by omega) hl1 (by omega))
  have HR : Hid (Sx.canB l m ps.length t x = (Sx.codeB l ps.length x || (Sx.growsB l m ps.length t && decide (x = Sx.two l + 2 + (ps.length : Int))))) := rfl
  have kb := Blk.new w 31 #[.int .i64 o, .int .i64 l, .int .i64 m, .slice A ps.length c, .int .i64 b, .int .i64 t]
  have s0 : Below w.heap.size w ((w.alloc (.cells #[.int .i64 o, .int .i64 l, .int .i64 m, .slice A ps.length c, .int .i64 b, .int .i64 t] 31))) ∧ ((w.alloc (.cells #[.int .i64 o, .int .i64 l, .int .i64 m, .slice A ps.length c, .int .i64 b, .int .i64 t] 31))).cell? ⟨w.heap.size, 0, none⟩ = some (.int .i64 o) ∧ ((w.alloc (.cells #[.int .i64 o, .int .i64 l, .int .i64 m, .slice A ps.length c, .int .i64 b, .int .i64 t] 31))).cell? ⟨w.heap.size, 1, none⟩ = some (.int .i64 l) ∧ ((w.alloc (.cells #[.int .i64 o, .int .i64 l, .int .i64 m, .slice A ps.length c, .int .i64 b, .int .i64 t] 31))).cell? ⟨w.heap.size, 2, none⟩ = some (.int .i64 m) ∧ ((w.alloc (.cells #[.int .i64 o, .int .i64 l, .int .i64 m, .slice A ps.length c, .int .i64 b, .int .i64 t] 31))).cell? ⟨w.heap.size, 3, none⟩ = some (.slice A ps.length c) ∧ ((w.alloc (.cells #[.int .i64 o, .int .i64 l, .int .i64 m, .slice A ps.length c, .int .i64 b, .int .i64 t] 31))).cell? ⟨w.heap.size, 4, none⟩ = some (.int .i64 b) ∧ ((w.alloc (.cells #[.int .i64 o, .int .i64 l, .int .i64 m, .slice A ps.length c, .int .i64 b, .int .i64 t] 31))).cell? ⟨w.heap.size, 5, none⟩ = some (.int .i64 t) := ⟨((Below.refl _ _).alloc (Nat.le_refl _) _), kb.cell 0, kb.cell 1, kb.cell 2, kb.cell 3, kb.cell 4, kb.cell 5⟩
  clear kb
  rcases hc : Sx.codeB l ps.length x with _ | _
  · rw [hc] at CC HR
    rcases hg : Sx.growsB l m ps.length t with _ | _
    · rw [hg] at CG HR
      go_enter Try.func58, Try.ntmps58
      go_wp2_with fail
      refine ((unhide CC) _).mono ?_; rintro e w1 ⟨rfl, hb1⟩
      have s1 := keep6 hb1 s0
      clear s0 hb1
      obtain ⟨hB, c0, c1, c2, c3, c4, c5⟩ := s1
      have s1 : Below w.heap.size w w1 ∧ w1.cell? ⟨w.heap.size, 0, none⟩ = some (.int .i64 o) ∧ w1.cell? ⟨w.heap.size, 1, none⟩ = some (.int .i64 l) ∧ w1.cell? ⟨w.heap.size, 2, none⟩ = some (.int .i64 m) ∧ w1.cell? ⟨w.heap.size, 3, none⟩ = some (.slice A ps.length c) ∧ w1.cell? ⟨w.heap.size, 4, none⟩ = some (.int .i64 b) ∧ w1.cell? ⟨w.heap.size, 5, none⟩ = some (.int .i64 t) := ⟨hB, c0, c1, c2, c3, c4, c5⟩
      go_wp2_with fail
      refine ((unhide CG) _).mono ?_; rintro e w2 ⟨rfl, hb2⟩
      have s2 := keep6 hb2 s1
      clear s1 hb2
      obtain ⟨hB, c0, c1, c2, c3, c4, c5⟩ := s2
      have s2 : Below w.heap.size w w2 ∧ w2.cell? ⟨w.heap.size, 0, none⟩ = some (.int .i64 o) ∧ w2.cell? ⟨w.heap.size, 1, none⟩ = some (.int .i64 l) ∧ w2.cell? ⟨w.heap.size, 2, none⟩ = some (.int .i64 m) ∧ w2.cell? ⟨w.heap.size, 3, none⟩ = some (.slice A ps.length c) ∧ w2.cell? ⟨w.heap.size, 4, none⟩ = some (.int .i64 b) ∧ w2.cell? ⟨w.heap.size, 5, none⟩ = some (.int .i64 t) := ⟨hB, c0, c1, c2, c3, c4, c5⟩
      go_wp2_with fail
      go_ret
      exact ⟨ret_bool (by rw [HR.out]; rfl), hB⟩
    · rw [hg] at CG HR
      by_cases hn : x = Sx.two l + 2 + (ps.length : Int)
      all_goals
        first
        | have en : (x == Sx.two l + 2 + (ps.length : Int)) = true := by rw [beq_iff_eq]; exact hn
          have HR : Hid (Sx.canB l m ps.length t x = true) := by have := HR.out; rw [this, decide_eq_true hn]; rfl
        | have en : (x == Sx.two l + 2 + (ps.length : Int)) = false := by rw [beq_eq_false_iff_ne]; exact hn
          have HR : Hid (Sx.canB l m ps.length t x = false) := by have := HR.out; rw [this, decide_eq_false hn]; rfl
        clear hn
        go_enter Try.func58, Try.ntmps58
        go_wp2_with fail
        refine ((unhide CC) _).mono ?_; rintro e w1 ⟨rfl, hb1⟩
        have s1 := keep6 hb1 s0
        clear s0 hb1
        obtain ⟨hB, c0, c1, c2, c3, c4, c5⟩ := s1
        have s1 : Below w.heap.size w w1 ∧ w1.cell? ⟨w.heap.size, 0, none⟩ = some (.int .i64 o) ∧ w1.cell? ⟨w.heap.size, 1, none⟩ = some (.int .i64 l) ∧ w1.cell? ⟨w.heap.size, 2, none⟩ = some (.int .i64 m) ∧ w1.cell? ⟨w.heap.size, 3, none⟩ = some (.slice A ps.length c) ∧ w1.cell? ⟨w.heap.size, 4, none⟩ = some (.int .i64 b) ∧ w1.cell? ⟨w.heap.size, 5, none⟩ = some (.int .i64 t) := ⟨hB, c0, c1, c2, c3, c4, c5⟩
        go_wp2_with fail
        refine ((unhide CG) _).mono ?_; rintro e w2 ⟨rfl, hb2⟩
        have s2 := keep6 hb2 s1
        clear s1 hb2
        obtain ⟨hB, c0, c1, c2, c3, c4, c5⟩ := s2
        have s2 : Below w.heap.size w w2 ∧ w2.cell? ⟨w.heap.size, 0, none⟩ = some (.int .i64 o) ∧ w2.cell? ⟨w.heap.size, 1, none⟩ = some (.int .i64 l) ∧ w2.cell? ⟨w.heap.size, 2, none⟩ = some (.int .i64 m) ∧ w2.cell? ⟨w.heap.size, 3, none⟩ = some (.slice A ps.length c) ∧ w2.cell? ⟨w.heap.size, 4, none⟩ = some (.int .i64 b) ∧ w2.cell? ⟨w.heap.size, 5, none⟩ = some (.int .i64 t) := ⟨hB, c0, c1, c2, c3, c4, c5⟩
        go_wp2_with fail
        refine ((unhide CN) _).mono ?_; rintro e w3 ⟨rfl, hb3⟩
        have s3 := keep6 hb3 s2
        clear s2 hb3
        obtain ⟨hB, c0, c1, c2, c3, c4, c5⟩ := s3
        have s3 : Below w.heap.size w w3 ∧ w3.cell? ⟨w.heap.size, 0, none⟩ = some (.int .i64 o) ∧ w3.cell? ⟨w.heap.size, 1, none⟩ = some (.int .i64 l) ∧ w3.cell? ⟨w.heap.size, 2, none⟩ = some (.int .i64 m) ∧ w3.cell? ⟨w.heap.size, 3, none⟩ = some (.slice A ps.length c) ∧ w3.cell? ⟨w.heap.size, 4, none⟩ = some (.int .i64 b) ∧ w3.cell? ⟨w.heap.size, 5, none⟩ = some (.int .i64 t) := ⟨hB, c0, c1, c2, c3, c4, c5⟩
        go_wp2_with fail
        go_ret
        exact ⟨ret_bool (by rw [HR.out]), hB⟩
  · rw [hc] at CC HR
    go_enter Try.func58, Try.ntmps58
    go_wp2_with fail
    refine ((unhide CC) _).mono ?_; rintro e w1 ⟨rfl, hb1⟩
    have s1 := keep6 hb1 s0
    clear s0 hb1
    obtain ⟨hB, c0, c1, c2, c3, c4, c5⟩ := s1
    have s1 : Below w.heap.size w w1 ∧ w1.cell? ⟨w.heap.size, 0, none⟩ = some (.int .i64 o) ∧ w1.cell? ⟨w.heap.size, 1, none⟩ = some (.int .i64 l) ∧ w1.cell? ⟨w.heap.size, 2, none⟩ = some (.int .i64 m) ∧ w1.cell? ⟨w.heap.size, 3, none⟩ = some (.slice A ps.length c) ∧ w1.cell? ⟨w.heap.size, 4, none⟩ = some (.int .i64 b) ∧ w1.cell? ⟨w.heap.size, 5, none⟩ = some (.int .i64 t) := ⟨hB, c0, c1, c2, c3, c4, c5⟩
    go_wp2_with fail
    go_ret
    exact ⟨ret_bool (by rw [HR.out]; rfl), hB⟩

set_option maxRecDepth 100000 in
set_option maxHeartbeats 4000000 in
theorem impl_canFollow (o l m : Int) (A : Option Addr) (c : Nat) (b t x : Int) (ps : List (Int × Int)) (w : World) (h0 : Sx.setOK o l m = true) (hz : ps.length ≤ 1024) (ht : t = -1 ∨ 0 ≤ t) :
    Calls Try.prog 62 #[kv o l m A ps.length c b t, .int .i64 x] w fun e w' => e = .returned (.bool (Sx.folB l m ps.length t x)) ∧ Below w.heap.size w w' := by
  have CG := hide (fun wx => impl_greatest o l m A ps.length c b t wx h0 (by omega) ht)
  clear ht
  have HR : Hid (Sx.folB l m ps.length t x = (decide (0 ≤ x) && decide (x ≤ Sx.greatI l m ps.length t))) := rfl
  have kb := Blk.new w 31 #[.int .i64 o, .int .i64 l, .int .i64 m, .slice A ps.length c, .int .i64 b, .int .i64 t]
  have s0 : Below w.heap.size w ((w.alloc (.cells #[.int .i64 o, .int .i64 l, .int .i64 m, .slice A ps.length c, .int .i64 b, .int .i64 t] 31))) ∧ ((w.alloc (.cells #[.int .i64 o, .int .i64 l, .int .i64 m, .slice A ps.length c, .int .i64 b, .int .i64 t] 31))).cell? ⟨w.heap.size, 0, none⟩ = some (.int .i64 o) ∧ ((w.alloc (.cells #[.int .i64 o, .int .i64 l, .int .i64 m, .slice A ps.length c, .int .i64 b, .int .i64 t] 31))).cell? ⟨w.heap.size, 1, none⟩ = some (.int .i64 l) ∧ ((w.alloc (.cells #[.int .i64 o, .int .i64 l, .int .i64 m, .slice A ps.length c, .int .i64 b, .int .i64 t] 31))).cell? ⟨w.heap.size, 2, none⟩ = some (.int .i64 m) ∧ ((w.alloc (.cells #[.int .i64 o, .int .i64 l, .int .i64 m, .slice A ps.length c, .int .i64 b, .int .i64 t] 31))).cell? ⟨w.heap.size, 3, none⟩ = some (.slice A ps.length c) ∧ ((w.alloc (.cells #[.int .i64 o, .int .i64 l, .int .i64 m, .slice A ps.length c, .int .i64 b, .int .i64 t] 31))).cell? ⟨w.heap.size, 4, none⟩ = some (.int .i64 b) ∧ ((w.alloc (.cells #[.int .i64 o, .int .i64 l, .int .i64 m, .slice A ps.length c, .int .i64 b, .int .i64 t] 31))).cell? ⟨w.heap.size, 5, none⟩ = some (.int .i64 t) := ⟨((Below.refl _ _).alloc (Nat.le_refl _) _), kb.cell 0, kb.cell 1, kb.cell 2, kb.cell 3, kb.cell 4, kb.cell 5⟩
  clear kb
  by_cases hx : 0 ≤ x
  · have ex : decide (0 ≤ x) = true := decide_eq_true hx
    rw [ex] at HR
    go_enter Try.func62, Try.ntmps62
    go_wp2_with fail
    refine ((unhide CG) _).mono ?_; rintro e w1 ⟨rfl, hb1⟩
    have s1 := keep6 hb1 s0
    clear s0 hb1
    obtain ⟨hB, c0, c1, c2, c3, c4, c5⟩ := s1
    have s1 : Below w.heap.size w w1 ∧ w1.cell? ⟨w.heap.size, 0, none⟩ = some (.int .i64 o) ∧ w1.cell? ⟨w.heap.size, 1, none⟩ = some (.int .i64 l) ∧ w1.cell? ⟨w.heap.size, 2, none⟩ = some (.int .i64 m) ∧ w1.cell? ⟨w.heap.size, 3, none⟩ = some (.slice A ps.length c) ∧ w1.cell? ⟨w.heap.size, 4, none⟩ = some (.int .i64 b) ∧ w1.cell? ⟨w.heap.size, 5, none⟩ = some (.int .i64 t) := ⟨hB, c0, c1, c2, c3, c4, c5⟩
    go_wp2_with fail
    go_ret
    exact ⟨ret_bool (by rw [HR.out]; simp), hB⟩
  · have ex : decide (0 ≤ x) = false := decide_eq_false hx
    rw [ex] at HR
    go_enter Try.func62, Try.ntmps62
    go_wp2_with fail
    go_ret
    exact ⟨ret_bool (by rw [HR.out]; simp), s0.1⟩

set_option maxRecDepth 100000 in
set_option maxHeartbeats 4000000 in
theorem impl_wordText (o l m : Int) (A : Option Addr) (c : Nat) (b t x : Int) (ps : List (Int × Int)) (w : World) (hr : PR w w.heap.size A ps) (h0 : Sx.setOK o l m = true) (hz : ps.length ≤ 1024) (hp : Sx.pairsOK l ps ps.length = true) (hx : Sx.codeB l ps.length x = true ∨ (x = Sx.two l + 2 + (ps.length : Int) ∧ Sx.codeB l ps.length t = true)) :
    Calls Try.prog 63 #[kv o l m A ps.length c b t, .int .i64 x] w fun e w' => e = .returned (.string (str (Sx.anyW l ps t x))) ∧ Below w.heap.size w w' := by
  by_cases hn : x = Sx.two l + 2 + (ps.length : Int)
  · have ht : Sx.codeB l ps.length t = true := by
      rcases hx with hx | hx
      · have t1 := Sx.two_pos l; have := Sx.codeB_of hx; omega
      · exact hx.2
    have CN := hide (fun wx => impl_nextWord o l m A ps.length c b t wx h0 (by omega))
    have CW := hide (fun y (hy : Sx.codeB l ps.length y = true) w2 (hb : Below w.heap.size w w2) => impl_word o l m A c b t y ps w2 (hr.keep hb.size hb) h0 hz hp hy)
    have kb := Blk.new w 31 #[.int .i64 o, .int .i64 l, .int .i64 m, .slice A ps.length c, .int .i64 b, .int .i64 t]
    have s0 : Below w.heap.size w ((w.alloc (.cells #[.int .i64 o, .int .i64 l, .int .i64 m, .slice A ps.length c, .int .i64 b, .int .i64 t] 31))) ∧ ((w.alloc (.cells #[.int .i64 o, .int .i64 l, .int .i64 m, .slice A ps.length c, .int .i64 b, .int .i64 t] 31))).cell? ⟨w.heap.size, 0, none⟩ = some (.int .i64 o) ∧ ((w.alloc (.cells #[.int .i64 o, .int .i64 l, .int .i64 m, .slice A ps.length c, .int .i64 b, .int .i64 t] 31))).cell? ⟨w.heap.size, 1, none⟩ = some (.int .i64 l) ∧ ((w.alloc (.cells #[.int .i64 o, .int .i64 l, .int .i64 m, .slice A ps.length c, .int .i64 b, .int .i64 t] 31))).cell? ⟨w.heap.size, 2, none⟩ = some (.int .i64 m) ∧ ((w.alloc (.cells #[.int .i64 o, .int .i64 l, .int .i64 m, .slice A ps.length c, .int .i64 b, .int .i64 t] 31))).cell? ⟨w.heap.size, 3, none⟩ = some (.slice A ps.length c) ∧ ((w.alloc (.cells #[.int .i64 o, .int .i64 l, .int .i64 m, .slice A ps.length c, .int .i64 b, .int .i64 t] 31))).cell? ⟨w.heap.size, 4, none⟩ = some (.int .i64 b) ∧ ((w.alloc (.cells #[.int .i64 o, .int .i64 l, .int .i64 m, .slice A ps.length c, .int .i64 b, .int .i64 t] 31))).cell? ⟨w.heap.size, 5, none⟩ = some (.int .i64 t) := ⟨((Below.refl _ _).alloc (Nat.le_refl _) _), kb.cell 0, kb.cell 1, kb.cell 2, kb.cell 3, kb.cell 4, kb.cell 5⟩
    clear kb
    have HR := hide (Sx.any_next (t := t) hn)
    have en : (x == Sx.two l + 2 + (ps.length : Int)) = true := by rw [beq_iff_eq]; exact hn
    have HL := Sx.word_length l ps t
    have ht := hide ht
    clear hn hx
    go_enter Try.func63, Try.ntmps63
    go_wp2_with fail
    refine ((unhide CN) _).mono ?_; rintro e w1 ⟨rfl, hb1⟩
    have s1 := keep6 hb1 s0
    clear s0 hb1
    obtain ⟨hB, c0, c1, c2, c3, c4, c5⟩ := s1
    have s1 : Below w.heap.size w w1 ∧ w1.cell? ⟨w.heap.size, 0, none⟩ = some (.int .i64 o) ∧ w1.cell? ⟨w.heap.size, 1, none⟩ = some (.int .i64 l) ∧ w1.cell? ⟨w.heap.size, 2, none⟩ = some (.int .i64 m) ∧ w1.cell? ⟨w.heap.size, 3, none⟩ = some (.slice A ps.length c) ∧ w1.cell? ⟨w.heap.size, 4, none⟩ = some (.int .i64 b) ∧ w1.cell? ⟨w.heap.size, 5, none⟩ = some (.int .i64 t) := ⟨hB, c0, c1, c2, c3, c4, c5⟩
    go_wp2_with fail
    refine ((unhide CW) t ht.out _ hB).mono ?_; rintro e w2 ⟨rfl, hb2⟩
    have B2 := below_next (Nat.le_refl _) hB hb2
    have HF := hide (str_first (Sx.word l ps t))
    have hsz : (str (Sx.word l ps t)).size ≤ 2000 := by rw [str_size]; omega
    have hsz1 : 1 ≤ (str (Sx.word l ps t)).size := by rw [str_size]; omega
    have hsz2 : (str (Sx.word l ps t)).size + ((str (Sx.word l ps t)).extract 0 1).size ≤ 9223372036854775807 := by rw [ByteArray.size_extract]; omega
    clear HL CW s1 hB c0 c1 c2 c3 c4 c5 hb2
    generalize str (Sx.word l ps t) = u at *
    go_wp2_with fail
    go_ret
    exact ⟨ret_str (by rw [HR.out]; exact HF.out), B2⟩
  · have hxc : Sx.codeB l ps.length x = true := by
      rcases hx with hx | hx
      · exact hx
      · exact absurd hx.1 hn
    rw [Sx.any_else (t := t) hn]
    exact impl_word o l m A c b t x ps w hr h0 hz hp hxc

def Sx.wordOK (o l m : Int) (ps : List (Int × Int)) (b t x : Int) : Bool := Sx.kOK o l m ps b t && Sx.canB l m ps.length t x
def Sx.wordS (o l m : Int) (ps : List (Int × Int)) (b t x : Int) : ByteArray := if Sx.wordOK o l m ps b t x = true then str (Sx.anyW l ps t x) else ByteArray.empty
theorem Sx.word_yes {o l m b t x : Int} {ps : List (Int × Int)} (h : Sx.kOK o l m ps b t = true) (h1 : Sx.canB l m ps.length t x = true) : Sx.wordOK o l m ps b t x = true ∧ Sx.wordS o l m ps b t x = str (Sx.anyW l ps t x) := by
  have h2 : Sx.wordOK o l m ps b t x = true := by simp [Sx.wordOK, h, h1]
  exact ⟨h2, if_pos h2⟩
theorem Sx.word_no {o l m b t x : Int} {ps : List (Int × Int)} (h : Sx.kOK o l m ps b t = false ∨ Sx.canB l m ps.length t x = false) : Sx.wordOK o l m ps b t x = false ∧ Sx.wordS o l m ps b t x = ByteArray.empty := by
  have h2 : Sx.wordOK o l m ps b t x = false := by rcases h with h | h <;> simp [Sx.wordOK, h]
  exact ⟨h2, if_neg (by simp [h2])⟩
theorem Sx.can_code {o l m b t x : Int} {ps : List (Int × Int)} (h : Sx.kOK o l m ps b t = true) (h1 : Sx.canB l m ps.length t x = true) : Sx.codeB l ps.length x = true ∨ (x = Sx.two l + 2 + (ps.length : Int) ∧ Sx.codeB l ps.length t = true) := by
  rcases Sx.can_of h1 with h1 | h1
  · exact .inl h1.1
  · refine .inr ⟨h1.2, ?_⟩
    have := (Sx.grows_of h1.1).1
    rcases (Sx.kOK_of h).2.2.2.2 with h2 | h2
    · exact h2
    · omega
theorem ret_word {a a' : ByteArray} {d d' : Bool} (h : d = d' ∧ a = a') : Ending.returned (.tuple #[.string a', .bool d']) = .returned (.tuple #[.string a, .bool d]) := by rw [h.1, h.2]

set_option maxRecDepth 100000 in
set_option maxHeartbeats 4000000 in
theorem impl_WordOf (o l m : Int) (A : Option Addr) (c : Nat) (b t x : Int) (ps : List (Int × Int)) (w : World) (hr : PR w w.heap.size A ps) (hz : ps.length ≤ 1048576) :
    Calls Try.prog 45 #[kv o l m A ps.length c b t, .int .i64 x] w fun e w' => e = .returned (.tuple #[.string (Sx.wordS o l m ps b t x), .bool (Sx.wordOK o l m ps b t x)]) ∧ Below w.heap.size w w' := by
  have CV := impl_KnownValid o l m A c b t ps (w.alloc (.cells #[.int .i64 o, .int .i64 l, .int .i64 m, .slice A ps.length c, .int .i64 b, .int .i64 t] 31)) (hr.keep (by simp) ((Below.refl _ _).alloc (Nat.le_refl _) _)) hz
  have kb := Blk.new w 31 #[.int .i64 o, .int .i64 l, .int .i64 m, .slice A ps.length c, .int .i64 b, .int .i64 t]
  have s0 : Below w.heap.size w ((w.alloc (.cells #[.int .i64 o, .int .i64 l, .int .i64 m, .slice A ps.length c, .int .i64 b, .int .i64 t] 31))) ∧ ((w.alloc (.cells #[.int .i64 o, .int .i64 l, .int .i64 m, .slice A ps.length c, .int .i64 b, .int .i64 t] 31))).cell? ⟨w.heap.size, 0, none⟩ = some (.int .i64 o) ∧ ((w.alloc (.cells #[.int .i64 o, .int .i64 l, .int .i64 m, .slice A ps.length c, .int .i64 b, .int .i64 t] 31))).cell? ⟨w.heap.size, 1, none⟩ = some (.int .i64 l) ∧ ((w.alloc (.cells #[.int .i64 o, .int .i64 l, .int .i64 m, .slice A ps.length c, .int .i64 b, .int .i64 t] 31))).cell? ⟨w.heap.size, 2, none⟩ = some (.int .i64 m) ∧ ((w.alloc (.cells #[.int .i64 o, .int .i64 l, .int .i64 m, .slice A ps.length c, .int .i64 b, .int .i64 t] 31))).cell? ⟨w.heap.size, 3, none⟩ = some (.slice A ps.length c) ∧ ((w.alloc (.cells #[.int .i64 o, .int .i64 l, .int .i64 m, .slice A ps.length c, .int .i64 b, .int .i64 t] 31))).cell? ⟨w.heap.size, 4, none⟩ = some (.int .i64 b) ∧ ((w.alloc (.cells #[.int .i64 o, .int .i64 l, .int .i64 m, .slice A ps.length c, .int .i64 b, .int .i64 t] 31))).cell? ⟨w.heap.size, 5, none⟩ = some (.int .i64 t) := ⟨((Below.refl _ _).alloc (Nat.le_refl _) _), kb.cell 0, kb.cell 1, kb.cell 2, kb.cell 3, kb.cell 4, kb.cell 5⟩
  clear kb
  obtain ⟨B0, c0, c1, c2, c3, c4, c5⟩ := s0
  have s0 : Below w.heap.size w (w.alloc (.cells #[.int .i64 o, .int .i64 l, .int .i64 m, .slice A ps.length c, .int .i64 b, .int .i64 t] 31)) ∧ (w.alloc (.cells #[.int .i64 o, .int .i64 l, .int .i64 m, .slice A ps.length c, .int .i64 b, .int .i64 t] 31)).cell? ⟨w.heap.size, 0, none⟩ = some (.int .i64 o) ∧ (w.alloc (.cells #[.int .i64 o, .int .i64 l, .int .i64 m, .slice A ps.length c, .int .i64 b, .int .i64 t] 31)).cell? ⟨w.heap.size, 1, none⟩ = some (.int .i64 l) ∧ (w.alloc (.cells #[.int .i64 o, .int .i64 l, .int .i64 m, .slice A ps.length c, .int .i64 b, .int .i64 t] 31)).cell? ⟨w.heap.size, 2, none⟩ = some (.int .i64 m) ∧ (w.alloc (.cells #[.int .i64 o, .int .i64 l, .int .i64 m, .slice A ps.length c, .int .i64 b, .int .i64 t] 31)).cell? ⟨w.heap.size, 3, none⟩ = some (.slice A ps.length c) ∧ (w.alloc (.cells #[.int .i64 o, .int .i64 l, .int .i64 m, .slice A ps.length c, .int .i64 b, .int .i64 t] 31)).cell? ⟨w.heap.size, 4, none⟩ = some (.int .i64 b) ∧ (w.alloc (.cells #[.int .i64 o, .int .i64 l, .int .i64 m, .slice A ps.length c, .int .i64 b, .int .i64 t] 31)).cell? ⟨w.heap.size, 5, none⟩ = some (.int .i64 t) := ⟨B0, c0, c1, c2, c3, c4, c5⟩
  by_cases hk : Sx.kOK o l m ps b t = true
  · obtain ⟨n0, n1, n2, n3, n4, n5⟩ := Sx.kOK_nums hk
    have h0 := (Sx.kOK_of hk).1
    have hp := (Sx.kOK_of hk).2.2.2.1
    rw [hk] at CV
    have CV := hide CV
    have CF := hide (fun wx => impl_canFollow o l m A c b t x ps wx h0 n4 n5)
    have CC := hide (fun wx => by have := impl_ClearCode o l m wx; rwa [Sx.clear_yes h0] at this)
    have CE := hide (fun wx => by have := impl_EndCode o l m wx; rwa [Sx.end_yes h0] at this)
    have HM := Sx.can_mk l m ps.length t x
    rcases hf : Sx.folB l m ps.length t x with _ | _
    · rw [hf] at CF HM
      have HR := hide (Sx.word_no (o := o) (b := b) (.inr (by rw [HM]; rfl)))
      clear hk hf HM h0 n0 n1 n2 n3 n5
      go_enter Try.func45, Try.ntmps45
      go_wp2_with fail
      refine (unhide CV).mono ?_; rintro e w1 ⟨rfl, hb1⟩
      have s1 := keep6 hb1 s0
      clear CV s0 B0 c0 c1 c2 c3 c4 c5
      obtain ⟨hB, c0, c1, c2, c3, c4, c5⟩ := s1
      have s1 : Below w.heap.size w w1 ∧ w1.cell? ⟨w.heap.size, 0, none⟩ = some (.int .i64 o) ∧ w1.cell? ⟨w.heap.size, 1, none⟩ = some (.int .i64 l) ∧ w1.cell? ⟨w.heap.size, 2, none⟩ = some (.int .i64 m) ∧ w1.cell? ⟨w.heap.size, 3, none⟩ = some (.slice A ps.length c) ∧ w1.cell? ⟨w.heap.size, 4, none⟩ = some (.int .i64 b) ∧ w1.cell? ⟨w.heap.size, 5, none⟩ = some (.int .i64 t) := ⟨hB, c0, c1, c2, c3, c4, c5⟩
      go_wp2_with fail
      refine ((unhide CF) _).mono ?_; rintro e w2 ⟨rfl, hb2⟩
      have s2 := keep6 hb2 s1
      clear s1 hb2
      obtain ⟨hB, c0, c1, c2, c3, c4, c5⟩ := s2
      have s2 : Below w.heap.size w w2 ∧ w2.cell? ⟨w.heap.size, 0, none⟩ = some (.int .i64 o) ∧ w2.cell? ⟨w.heap.size, 1, none⟩ = some (.int .i64 l) ∧ w2.cell? ⟨w.heap.size, 2, none⟩ = some (.int .i64 m) ∧ w2.cell? ⟨w.heap.size, 3, none⟩ = some (.slice A ps.length c) ∧ w2.cell? ⟨w.heap.size, 4, none⟩ = some (.int .i64 b) ∧ w2.cell? ⟨w.heap.size, 5, none⟩ = some (.int .i64 t) := ⟨hB, c0, c1, c2, c3, c4, c5⟩
      go_wp2_with fail
      go_ret2
      exact ⟨ret_word HR.out, hB⟩
    rw [hf] at CF HM
    by_cases hxc : x = Sx.two l
    · have ec : (x == Sx.two l) = true := by rw [beq_iff_eq]; exact hxc
      have HR := hide (Sx.word_no (o := o) (b := b) (.inr (by rw [HM]; simp [hxc])))
      clear hk hf hxc HM h0 n0 n1 n2 n3 n5
      go_enter Try.func45, Try.ntmps45
      go_wp2_with fail
      refine (unhide CV).mono ?_; rintro e w1 ⟨rfl, hb1⟩
      have s1 := keep6 hb1 s0
      clear CV s0 B0 c0 c1 c2 c3 c4 c5
      obtain ⟨hB, c0, c1, c2, c3, c4, c5⟩ := s1
      have s1 : Below w.heap.size w w1 ∧ w1.cell? ⟨w.heap.size, 0, none⟩ = some (.int .i64 o) ∧ w1.cell? ⟨w.heap.size, 1, none⟩ = some (.int .i64 l) ∧ w1.cell? ⟨w.heap.size, 2, none⟩ = some (.int .i64 m) ∧ w1.cell? ⟨w.heap.size, 3, none⟩ = some (.slice A ps.length c) ∧ w1.cell? ⟨w.heap.size, 4, none⟩ = some (.int .i64 b) ∧ w1.cell? ⟨w.heap.size, 5, none⟩ = some (.int .i64 t) := ⟨hB, c0, c1, c2, c3, c4, c5⟩
      go_wp2_with fail
      refine ((unhide CF) _).mono ?_; rintro e w2 ⟨rfl, hb2⟩
      have s2 := keep6 hb2 s1
      clear s1 hb2
      obtain ⟨hB, c0, c1, c2, c3, c4, c5⟩ := s2
      have s2 : Below w.heap.size w w2 ∧ w2.cell? ⟨w.heap.size, 0, none⟩ = some (.int .i64 o) ∧ w2.cell? ⟨w.heap.size, 1, none⟩ = some (.int .i64 l) ∧ w2.cell? ⟨w.heap.size, 2, none⟩ = some (.int .i64 m) ∧ w2.cell? ⟨w.heap.size, 3, none⟩ = some (.slice A ps.length c) ∧ w2.cell? ⟨w.heap.size, 4, none⟩ = some (.int .i64 b) ∧ w2.cell? ⟨w.heap.size, 5, none⟩ = some (.int .i64 t) := ⟨hB, c0, c1, c2, c3, c4, c5⟩
      go_wp2_with fail
      refine ((unhide CC) _).mono ?_; rintro e w3 ⟨rfl, hb3⟩
      have s3 := keep6 hb3 s2
      clear s2 hb3
      obtain ⟨hB, c0, c1, c2, c3, c4, c5⟩ := s3
      have s3 : Below w.heap.size w w3 ∧ w3.cell? ⟨w.heap.size, 0, none⟩ = some (.int .i64 o) ∧ w3.cell? ⟨w.heap.size, 1, none⟩ = some (.int .i64 l) ∧ w3.cell? ⟨w.heap.size, 2, none⟩ = some (.int .i64 m) ∧ w3.cell? ⟨w.heap.size, 3, none⟩ = some (.slice A ps.length c) ∧ w3.cell? ⟨w.heap.size, 4, none⟩ = some (.int .i64 b) ∧ w3.cell? ⟨w.heap.size, 5, none⟩ = some (.int .i64 t) := ⟨hB, c0, c1, c2, c3, c4, c5⟩
      go_wp2_with fail
      go_ret2
      exact ⟨ret_word HR.out, hB⟩
    have ec : (x == Sx.two l) = false := by rw [beq_eq_false_iff_ne]; exact hxc
    by_cases hxe : x = Sx.two l + 1
    · have ee : (x == Sx.two l + 1) = true := by rw [beq_iff_eq]; exact hxe
      have HR := hide (Sx.word_no (o := o) (b := b) (.inr (by rw [HM]; simp [hxe])))
      clear hk hf hxc hxe HM h0 n0 n1 n2 n3 n5
      go_enter Try.func45, Try.ntmps45
      go_wp2_with fail
      refine (unhide CV).mono ?_; rintro e w1 ⟨rfl, hb1⟩
      have s1 := keep6 hb1 s0
      clear CV s0 B0 c0 c1 c2 c3 c4 c5
      obtain ⟨hB, c0, c1, c2, c3, c4, c5⟩ := s1
      have s1 : Below w.heap.size w w1 ∧ w1.cell? ⟨w.heap.size, 0, none⟩ = some (.int .i64 o) ∧ w1.cell? ⟨w.heap.size, 1, none⟩ = some (.int .i64 l) ∧ w1.cell? ⟨w.heap.size, 2, none⟩ = some (.int .i64 m) ∧ w1.cell? ⟨w.heap.size, 3, none⟩ = some (.slice A ps.length c) ∧ w1.cell? ⟨w.heap.size, 4, none⟩ = some (.int .i64 b) ∧ w1.cell? ⟨w.heap.size, 5, none⟩ = some (.int .i64 t) := ⟨hB, c0, c1, c2, c3, c4, c5⟩
      go_wp2_with fail
      refine ((unhide CF) _).mono ?_; rintro e w2 ⟨rfl, hb2⟩
      have s2 := keep6 hb2 s1
      clear s1 hb2
      obtain ⟨hB, c0, c1, c2, c3, c4, c5⟩ := s2
      have s2 : Below w.heap.size w w2 ∧ w2.cell? ⟨w.heap.size, 0, none⟩ = some (.int .i64 o) ∧ w2.cell? ⟨w.heap.size, 1, none⟩ = some (.int .i64 l) ∧ w2.cell? ⟨w.heap.size, 2, none⟩ = some (.int .i64 m) ∧ w2.cell? ⟨w.heap.size, 3, none⟩ = some (.slice A ps.length c) ∧ w2.cell? ⟨w.heap.size, 4, none⟩ = some (.int .i64 b) ∧ w2.cell? ⟨w.heap.size, 5, none⟩ = some (.int .i64 t) := ⟨hB, c0, c1, c2, c3, c4, c5⟩
      go_wp2_with fail
      refine ((unhide CC) _).mono ?_; rintro e w3 ⟨rfl, hb3⟩
      have s3 := keep6 hb3 s2
      clear s2 hb3
      obtain ⟨hB, c0, c1, c2, c3, c4, c5⟩ := s3
      have s3 : Below w.heap.size w w3 ∧ w3.cell? ⟨w.heap.size, 0, none⟩ = some (.int .i64 o) ∧ w3.cell? ⟨w.heap.size, 1, none⟩ = some (.int .i64 l) ∧ w3.cell? ⟨w.heap.size, 2, none⟩ = some (.int .i64 m) ∧ w3.cell? ⟨w.heap.size, 3, none⟩ = some (.slice A ps.length c) ∧ w3.cell? ⟨w.heap.size, 4, none⟩ = some (.int .i64 b) ∧ w3.cell? ⟨w.heap.size, 5, none⟩ = some (.int .i64 t) := ⟨hB, c0, c1, c2, c3, c4, c5⟩
      go_wp2_with fail
      refine ((unhide CE) _).mono ?_; rintro e w4 ⟨rfl, hb4⟩
      have s4 := keep6 hb4 s3
      clear s3 hb4
      obtain ⟨hB, c0, c1, c2, c3, c4, c5⟩ := s4
      have s4 : Below w.heap.size w w4 ∧ w4.cell? ⟨w.heap.size, 0, none⟩ = some (.int .i64 o) ∧ w4.cell? ⟨w.heap.size, 1, none⟩ = some (.int .i64 l) ∧ w4.cell? ⟨w.heap.size, 2, none⟩ = some (.int .i64 m) ∧ w4.cell? ⟨w.heap.size, 3, none⟩ = some (.slice A ps.length c) ∧ w4.cell? ⟨w.heap.size, 4, none⟩ = some (.int .i64 b) ∧ w4.cell? ⟨w.heap.size, 5, none⟩ = some (.int .i64 t) := ⟨hB, c0, c1, c2, c3, c4, c5⟩
      go_wp2_with fail
      go_ret2
      exact ⟨ret_word HR.out, hB⟩
    · have ee : (x == Sx.two l + 1) = false := by rw [beq_eq_false_iff_ne]; exact hxe
      have hc : Sx.canB l m ps.length t x = true := by rw [HM]; simp [hxc, hxe]
      have HR := hide (Sx.word_yes hk hc)
      have hcc := Sx.can_code hk hc
      have CA := hide (fun w2 (hb : Below w.heap.size w w2) => impl_wordText o l m A c b t x ps w2 (hr.keep hb.size hb) h0 n4 hp hcc)
      clear hk hf hxc hxe hc hcc HM h0 n0 n1 n2 n3 n5
      go_enter Try.func45, Try.ntmps45
      go_wp2_with fail
      refine (unhide CV).mono ?_; rintro e w1 ⟨rfl, hb1⟩
      have s1 := keep6 hb1 s0
      clear CV s0 B0 c0 c1 c2 c3 c4 c5
      obtain ⟨hB, c0, c1, c2, c3, c4, c5⟩ := s1
      have s1 : Below w.heap.size w w1 ∧ w1.cell? ⟨w.heap.size, 0, none⟩ = some (.int .i64 o) ∧ w1.cell? ⟨w.heap.size, 1, none⟩ = some (.int .i64 l) ∧ w1.cell? ⟨w.heap.size, 2, none⟩ = some (.int .i64 m) ∧ w1.cell? ⟨w.heap.size, 3, none⟩ = some (.slice A ps.length c) ∧ w1.cell? ⟨w.heap.size, 4, none⟩ = some (.int .i64 b) ∧ w1.cell? ⟨w.heap.size, 5, none⟩ = some (.int .i64 t) := ⟨hB, c0, c1, c2, c3, c4, c5⟩
      go_wp2_with fail
      refine ((unhide CF) _).mono ?_; rintro e w2 ⟨rfl, hb2⟩
      have s2 := keep6 hb2 s1
      clear s1 hb2
      obtain ⟨hB, c0, c1, c2, c3, c4, c5⟩ := s2
      have s2 : Below w.heap.size w w2 ∧ w2.cell? ⟨w.heap.size, 0, none⟩ = some (.int .i64 o) ∧ w2.cell? ⟨w.heap.size, 1, none⟩ = some (.int .i64 l) ∧ w2.cell? ⟨w.heap.size, 2, none⟩ = some (.int .i64 m) ∧ w2.cell? ⟨w.heap.size, 3, none⟩ = some (.slice A ps.length c) ∧ w2.cell? ⟨w.heap.size, 4, none⟩ = some (.int .i64 b) ∧ w2.cell? ⟨w.heap.size, 5, none⟩ = some (.int .i64 t) := ⟨hB, c0, c1, c2, c3, c4, c5⟩
      go_wp2_with fail
      refine ((unhide CC) _).mono ?_; rintro e w3 ⟨rfl, hb3⟩
      have s3 := keep6 hb3 s2
      clear s2 hb3
      obtain ⟨hB, c0, c1, c2, c3, c4, c5⟩ := s3
      have s3 : Below w.heap.size w w3 ∧ w3.cell? ⟨w.heap.size, 0, none⟩ = some (.int .i64 o) ∧ w3.cell? ⟨w.heap.size, 1, none⟩ = some (.int .i64 l) ∧ w3.cell? ⟨w.heap.size, 2, none⟩ = some (.int .i64 m) ∧ w3.cell? ⟨w.heap.size, 3, none⟩ = some (.slice A ps.length c) ∧ w3.cell? ⟨w.heap.size, 4, none⟩ = some (.int .i64 b) ∧ w3.cell? ⟨w.heap.size, 5, none⟩ = some (.int .i64 t) := ⟨hB, c0, c1, c2, c3, c4, c5⟩
      go_wp2_with fail
      refine ((unhide CE) _).mono ?_; rintro e w4 ⟨rfl, hb4⟩
      have s4 := keep6 hb4 s3
      clear s3 hb4
      obtain ⟨hB, c0, c1, c2, c3, c4, c5⟩ := s4
      have s4 : Below w.heap.size w w4 ∧ w4.cell? ⟨w.heap.size, 0, none⟩ = some (.int .i64 o) ∧ w4.cell? ⟨w.heap.size, 1, none⟩ = some (.int .i64 l) ∧ w4.cell? ⟨w.heap.size, 2, none⟩ = some (.int .i64 m) ∧ w4.cell? ⟨w.heap.size, 3, none⟩ = some (.slice A ps.length c) ∧ w4.cell? ⟨w.heap.size, 4, none⟩ = some (.int .i64 b) ∧ w4.cell? ⟨w.heap.size, 5, none⟩ = some (.int .i64 t) := ⟨hB, c0, c1, c2, c3, c4, c5⟩
      go_wp2_with fail
      refine ((unhide CA) _ hB).mono ?_; rintro e w5 ⟨rfl, hb5⟩
      have B5 := below_next (Nat.le_refl _) hB hb5
      go_wp2_with fail
      go_ret2
      exact ⟨ret_word HR.out, B5⟩
  · have hk : Sx.kOK o l m ps b t = false := by simpa using hk
    rw [hk] at CV
    have HR := hide (Sx.word_no (t := t) (x := x) (.inl hk))
    have CV := hide CV
    clear hk
    go_enter Try.func45, Try.ntmps45
    go_wp2_with fail
    refine (unhide CV).mono ?_; rintro e w1 ⟨rfl, hb1⟩
    have B1 := below_next (Nat.le_refl _) B0 hb1
    go_wp2_with fail
    go_ret2
    exact ⟨ret_word HR.out, B1⟩

end Go.Proofs.Ytegfcpdkehgdpaa

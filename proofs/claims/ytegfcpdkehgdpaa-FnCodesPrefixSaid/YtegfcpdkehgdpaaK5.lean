/- The walks of NextWord, Grows, Greatest and Width. Conditions: the pairs' cells lie below the call's own memory. -/
import Derived.Test.YtegfcpdkehgdpaaK4
namespace Go.Proofs.Ytegfcpdkehgdpaa
open Go.RowKit

theorem Sx.kOK_of {o l m b t : Int} {ps : List (Int × Int)} (h : Sx.kOK o l m ps b t = true) :
    Sx.setOK o l m = true ∧ (ps.length : Int) ≤ Sx.two m - 1 - (Sx.two l + 1) ∧ (0 ≤ b ∧ b ≤ (ps.length : Int)) ∧ Sx.pairsOK l ps ps.length = true ∧ (Sx.codeB l ps.length t = true ∨ (t = -1 ∧ b = (ps.length : Int))) := by
  simpa only [Sx.kOK, Bool.and_eq_true, Bool.or_eq_true, decide_eq_true_iff] using h
theorem Sx.code_nonneg {l : Int} {n : Nat} {t : Int} (h : Sx.codeB l n t = true) : 0 ≤ t := by
  have := Sx.two_pos l
  simp only [Sx.codeB, Bool.or_eq_true, decide_eq_true_iff] at h; omega
/-- What holds of something that can be known, in numbers. -/
theorem Sx.kOK_nums {o l m b t : Int} {ps : List (Int × Int)} (h : Sx.kOK o l m ps b t = true) : 1 ≤ l ∧ l ≤ 8 ∧ l + 2 ≤ m ∧ m ≤ 10 ∧ ps.length ≤ 1024 ∧ (t = -1 ∨ 0 ≤ t) := by
  obtain ⟨h0, h1, _, _, h4⟩ := Sx.kOK_of h
  have hb := Sx.setOK_bd h0
  have := Sx.two_lit (l := m) (by omega)
  have := Sx.two_pos l
  refine ⟨hb.1, hb.2.1, hb.2.2.1, hb.2.2.2, by omega, ?_⟩
  rcases h4 with h4 | h4
  · exact .inr (Sx.code_nonneg h4)
  · exact .inl h4.1
def Sx.nextS (o l m : Int) (ps : List (Int × Int)) (b t : Int) : Int := if Sx.kOK o l m ps b t = true then Sx.two l + 2 + (ps.length : Int) else -1
def Sx.greatS (o l m : Int) (ps : List (Int × Int)) (b t : Int) : Int := if Sx.kOK o l m ps b t = true then Sx.greatI l m ps.length t else -1
def Sx.widthS (o l m : Int) (ps : List (Int × Int)) (b t : Int) : Int := if Sx.kOK o l m ps b t = true then Sx.widthI l m ps.length t else -1

set_option maxRecDepth 100000 in
set_option maxHeartbeats 2000000 in
theorem impl_Width (o l m : Int) (A : Option Addr) (c : Nat) (b t : Int) (ps : List (Int × Int)) (w : World) (hr : PR w w.heap.size A ps) (hz : ps.length ≤ 1048576) :
    Calls Try.prog 32 #[kv o l m A ps.length c b t] w fun e w' => e = .returned (.int .i64 (Sx.widthS o l m ps b t)) ∧ Below w.heap.size w w' := by
  have CV := impl_KnownValid o l m A c b t ps (w.alloc (.cells #[.int .i64 o, .int .i64 l, .int .i64 m, .slice A ps.length c, .int .i64 b, .int .i64 t] 31)) (hr.keep (by simp) ((Below.refl _ _).alloc (Nat.le_refl _) _)) hz
  have kb := Blk.new w 31 #[.int .i64 o, .int .i64 l, .int .i64 m, .slice A ps.length c, .int .i64 b, .int .i64 t]
  have s0 : Below w.heap.size w ((w.alloc (.cells #[.int .i64 o, .int .i64 l, .int .i64 m, .slice A ps.length c, .int .i64 b, .int .i64 t] 31))) ∧ ((w.alloc (.cells #[.int .i64 o, .int .i64 l, .int .i64 m, .slice A ps.length c, .int .i64 b, .int .i64 t] 31))).cell? ⟨w.heap.size, 0, none⟩ = some (.int .i64 o) ∧ ((w.alloc (.cells #[.int .i64 o, .int .i64 l, .int .i64 m, .slice A ps.length c, .int .i64 b, .int .i64 t] 31))).cell? ⟨w.heap.size, 1, none⟩ = some (.int .i64 l) ∧ ((w.alloc (.cells #[.int .i64 o, .int .i64 l, .int .i64 m, .slice A ps.length c, .int .i64 b, .int .i64 t] 31))).cell? ⟨w.heap.size, 2, none⟩ = some (.int .i64 m) ∧ ((w.alloc (.cells #[.int .i64 o, .int .i64 l, .int .i64 m, .slice A ps.length c, .int .i64 b, .int .i64 t] 31))).cell? ⟨w.heap.size, 3, none⟩ = some (.slice A ps.length c) ∧ ((w.alloc (.cells #[.int .i64 o, .int .i64 l, .int .i64 m, .slice A ps.length c, .int .i64 b, .int .i64 t] 31))).cell? ⟨w.heap.size, 4, none⟩ = some (.int .i64 b) ∧ ((w.alloc (.cells #[.int .i64 o, .int .i64 l, .int .i64 m, .slice A ps.length c, .int .i64 b, .int .i64 t] 31))).cell? ⟨w.heap.size, 5, none⟩ = some (.int .i64 t) := ⟨((Below.refl _ _).alloc (Nat.le_refl _) _), kb.cell 0, kb.cell 1, kb.cell 2, kb.cell 3, kb.cell 4, kb.cell 5⟩
  clear kb
  obtain ⟨B0, c0, c1, c2, c3, c4, c5⟩ := s0
  have s0 : Below w.heap.size w (w.alloc (.cells #[.int .i64 o, .int .i64 l, .int .i64 m, .slice A ps.length c, .int .i64 b, .int .i64 t] 31)) ∧ (w.alloc (.cells #[.int .i64 o, .int .i64 l, .int .i64 m, .slice A ps.length c, .int .i64 b, .int .i64 t] 31)).cell? ⟨w.heap.size, 0, none⟩ = some (.int .i64 o) ∧ (w.alloc (.cells #[.int .i64 o, .int .i64 l, .int .i64 m, .slice A ps.length c, .int .i64 b, .int .i64 t] 31)).cell? ⟨w.heap.size, 1, none⟩ = some (.int .i64 l) ∧ (w.alloc (.cells #[.int .i64 o, .int .i64 l, .int .i64 m, .slice A ps.length c, .int .i64 b, .int .i64 t] 31)).cell? ⟨w.heap.size, 2, none⟩ = some (.int .i64 m) ∧ (w.alloc (.cells #[.int .i64 o, .int .i64 l, .int .i64 m, .slice A ps.length c, .int .i64 b, .int .i64 t] 31)).cell? ⟨w.heap.size, 3, none⟩ = some (.slice A ps.length c) ∧ (w.alloc (.cells #[.int .i64 o, .int .i64 l, .int .i64 m, .slice A ps.length c, .int .i64 b, .int .i64 t] 31)).cell? ⟨w.heap.size, 4, none⟩ = some (.int .i64 b) ∧ (w.alloc (.cells #[.int .i64 o, .int .i64 l, .int .i64 m, .slice A ps.length c, .int .i64 b, .int .i64 t] 31)).cell? ⟨w.heap.size, 5, none⟩ = some (.int .i64 t) := ⟨B0, c0, c1, c2, c3, c4, c5⟩
  by_cases hk : Sx.kOK o l m ps b t = true
  · obtain ⟨n0, n1, n2, n3, n4, n5⟩ := Sx.kOK_nums hk
    have h0 := (Sx.kOK_of hk).1
    have CX := hide (fun wx => impl_width o l m A ps.length c b t wx h0 (by omega) n5)
    rw [hk] at CV
    have HR := hide (show Sx.widthS o l m ps b t = _ from if_pos hk)
    have CV := hide CV
    clear hk h0 n0 n1 n2 n3 n5
    go_enter Try.func32, Try.ntmps32
    go_wp2_with fail
    refine (unhide CV).mono ?_; rintro e w1 ⟨rfl, hb1⟩
    have s1 := keep6 hb1 s0
    clear CV s0 B0 c0 c1 c2 c3 c4 c5
    obtain ⟨B1, c0, c1, c2, c3, c4, c5⟩ := s1
    go_wp2_with fail
    refine ((unhide CX) _).mono ?_; rintro e w2 ⟨rfl, hb2⟩
    go_wp2_with fail
    go_ret
    exact ⟨ret_int HR.out.symm, below_next (Nat.le_refl _) B1 hb2⟩
  · have hk : Sx.kOK o l m ps b t = false := by simpa using hk
    rw [hk] at CV
    have HR := hide (show Sx.widthS o l m ps b t = -1 from if_neg (by simp [hk]))
    have CV := hide CV
    clear hk
    go_enter Try.func32, Try.ntmps32
    go_wp2_with fail
    refine (unhide CV).mono ?_; rintro e w1 ⟨rfl, hb1⟩
    have B1 := below_next (Nat.le_refl _) B0 hb1
    go_wp2_with fail
    go_ret
    exact ⟨ret_int HR.out.symm, B1⟩

end Go.Proofs.Ytegfcpdkehgdpaa

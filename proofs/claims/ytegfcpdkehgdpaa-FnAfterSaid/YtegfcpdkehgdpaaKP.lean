/- The walks of the marks that the exact laws lay on pairs. Conditions: the pairs lie in a row of the call's own, or there is none. -/
import Derived.Test.YtegfcpdkehgdpaaKM
namespace Go.Proofs.Ytegfcpdkehgdpaa
open Go.RowKit

theorem vintK {k : IntKind} {a b : Int} (h : a = b) : Value.int k a = .int k b := by rw [h]
/-- Pairs in a row of the call's own, from block base on. -/
def OwnP (w : World) (base : Nat) (A : Option Addr) (ps : List (Int × Int)) : Prop :=
  ps = [] ∨ ∃ g cs, A = some ⟨g, 0, none⟩ ∧ base ≤ g ∧ Blk w g 63 cs ∧ ps.length * 2 ≤ cs.size ∧ ∀ j (h : j < ps.length), cs[j * 2]? = some (.int .i64 (ps[j]).1) ∧ cs[j * 2 + 1]? = some (.int .i64 (ps[j]).2)
def blkOf (A : Option Addr) : Option Nat := A.map (·.block)
theorem OwnP.of_blk {w : World} {base g : Nat} {ps : List (Int × Int)} (h : Blk w g 63 (pcells ps)) (hg : base ≤ g) : OwnP w base (some ⟨g, 0, none⟩) ps :=
  .inr ⟨g, _, rfl, hg, h, by rw [pcells_size]; exact Nat.le_refl _, fun j hj => by
    have := pvals_get ps j hj
    exact ⟨by unfold pcells; simpa using this.1, by unfold pcells; simpa using this.2⟩⟩
theorem OwnP.of_own {w : World} {base n c : Nat} {A : Option Addr} {ps : List (Int × Int)} (hn : ps.length = n) (h : w.ownsRow base 63 2 (.slice A n c) n (pvals ps)) : OwnP w base A ps := by
  subst hn
  rcases h.2 with ⟨_, h0⟩ | ⟨g, cap, cur, hv, hb, hh, hc, _, hsz, htk⟩
  · exact .inl (List.eq_nil_of_length_eq_zero h0)
  · injection hv with hA _ _
    refine .inr ⟨g, cur, hA, hb, hh, by rw [hsz]; exact Nat.mul_le_mul_right _ hc, fun j hj => ?_⟩
    have hp := pvals_get ps j hj
    have key : ∀ i u, i < ps.length * 2 → (pvals ps)[i]? = some u → cur[i]? = some u := fun i u hi hu => by
      rw [← htk, List.getElem?_take, if_pos hi] at hu
      simpa using hu
    exact ⟨key _ _ (by omega) hp.1, key _ _ (by omega) hp.2⟩
theorem OwnP.pr {w : World} {base B : Nat} {A : Option Addr} {ps : List (Int × Int)} (h : OwnP w base A ps) (hB : w.heap.size ≤ B) : PR w B A ps := fun h0 => by
  rcases h with rfl | ⟨g, cs, rfl, _, hk, _, hc⟩
  · simp at h0
  · exact ⟨g, 0, rfl, Nat.lt_of_lt_of_le hk.lt hB, fun k hk2 => by rw [Nat.zero_add]; exact ⟨(hk.cell _).trans (hc k hk2).1, (hk.cell _).trans (hc k hk2).2⟩⟩
theorem OwnP.keep {w w' : World} {base : Nat} {A : Option Addr} {ps : List (Int × Int)} (h : OwnP w base A ps) (hk : ∀ g, some g = blkOf A → g < w.heap.size → w'.heap[g]? = w.heap[g]?) : OwnP w' base A ps := by
  rcases h with rfl | ⟨g, cs, rfl, hb, hB, hz, hc⟩
  · exact .inl rfl
  · exact .inr ⟨g, cs, rfl, hb, (hk g rfl hB.lt).trans hB, hz, hc⟩
theorem OwnP.below {w w' : World} {base : Nat} {A : Option Addr} {ps : List (Int × Int)} (h : OwnP w base A ps) (hb : Below w.heap.size w w') : OwnP w' base A ps := h.keep fun g _ hg => hb.block g hg
/-- The marks of n pairs. -/
def pmarks (n : Nat) : List (Int × Int) := (List.range n).map fun (j : Nat) => (1 + 2 * (j : Int), 1 + 2 * (j : Int) + 1)
theorem pmarks_length (n : Nat) : (pmarks n).length = n := by simp [pmarks]
theorem pmarks_get (n j : Nat) (h : j < (pmarks n).length) : (pmarks n)[j] = (1 + 2 * (j : Int), 1 + 2 * (j : Int) + 1) := by simp [pmarks]

/-- The first k pairs bear their marks. -/
def MarkTo (cs : Array Value) (k : Nat) : Prop := ∀ j, j < k → cs[j * 2]? = some (.int .i64 (1 + 2 * (j : Int))) ∧ cs[j * 2 + 1]? = some (.int .i64 (1 + 2 * (j : Int) + 1))
theorem MarkTo.step {cs : Array Value} {k : Nat} (h : MarkTo cs k) (hz : k * 2 + 1 < cs.size) : MarkTo ((cs.setIfInBounds (k * 2) (.int .i64 (1 + 2 * (k : Int)))).setIfInBounds (k * 2 + 1) (.int .i64 (1 + 2 * (k : Int) + 1))) (k + 1) := fun j hj => by
  simp only [Array.getElem?_setIfInBounds, Array.size_setIfInBounds]
  by_cases hjk : j = k
  · subst hjk
    exact ⟨by rw [if_neg (by omega), if_pos rfl, if_pos (by omega)], by rw [if_pos rfl, if_pos (by omega)]⟩
  · have := h j (by omega)
    exact ⟨by rw [if_neg (by omega), if_neg (by omega)]; exact this.1, by rw [if_neg (by omega), if_neg (by omega)]; exact this.2⟩

set_option maxRecDepth 100000 in
set_option maxHeartbeats 2000000 in
theorem laws_markPairS (A : Option Addr) (c : Nat) (ps : List (Int × Int)) (base : Nat) (w : World) (hr : OwnP w base A ps) (hz : ps.length ≤ 1048577) :
    Calls Try.prog 68 #[.slice A ps.length c, .int .i64 1] w fun e w' => e = .returned (.int .i64 (1 + 2 * (ps.length : Int))) ∧ OwnP w' base A (pmarks ps.length) ∧ w.grownBy w' (blkOf A) := by
  rcases hr with rfl | ⟨g, cs0, rfl, hbg, hblk, hsz, _⟩
  · go_enter Try.func68, Try.ntmps68
    go_wp2_with fail
    go_loopw [1, 5] (fun kk i wr => kk = .int .i64 1 ∧ i = .int .i64 0 ∧ w = wr) (fun _ _ _ => 0)
    case atStart => exact ⟨rfl, rfl, rfl⟩
    case round =>
      obtain ⟨rfl, rfl, rfl⟩ := hrel
      go_wp2_with fail
      go_ret
      exact ⟨rfl, .inl rfl, World.grownBy.refl _ _⟩
  · go_enter Try.func68, Try.ntmps68
    go_wp2_with fail
    go_loopw [1, 5] (fun kk i wr => ∃ (k : Nat) (cs : Array Value), k ≤ ps.length ∧ i = .int .i64 k ∧ kk = .int .i64 (1 + 2 * (k : Int)) ∧ Blk wr g 63 cs ∧ ps.length * 2 ≤ cs.size ∧ MarkTo cs k ∧ w.grownBy wr (some g)) (fun _ i _ => ps.length - (intOf i).toNat)
    case atStart => exact ⟨0, cs0, Nat.zero_le _, rfl, rfl, hblk, hsz, fun j h => absurd h (by omega), World.grownBy.refl _ _⟩
    case round =>
      obtain ⟨k, cs, hk, rfl, rfl, hB, hs, hM, hG⟩ := hrel
      by_cases hlt : k < ps.length
      · have HM := hide (hM.step (by omega))
        have y0 : wr.cell? ⟨g, k * 2, none⟩ = some cs[k * 2] := (hB.cell _).trans (Array.getElem?_eq_getElem (by omega))
        have y1 : wr.cell? ⟨g, k * 2 + 1, none⟩ = some cs[k * 2 + 1] := (hB.cell _).trans (Array.getElem?_eq_getElem (by omega))
        have f0 := hB.frozen (k * 2)
        have f1 := hB.frozen (k * 2 + 1)
        clear hM
        go_wp2_with fail
        go_roundw
        case rel => exact ⟨k + 1, _, by omega, by go_num, vintK (by omega), (hB.set_ _ _).set_ _ _, by simpa using hs, HM.out, only_setCell (only_setCell hG (p := ⟨g, k * 2, none⟩) (.inl rfl) _) (p := ⟨g, k * 2 + 1, none⟩) (.inl rfl) _⟩
        case measure => simp [intOf]; omega
      · obtain rfl : k = ps.length := by omega
        go_wp2_with fail
        go_ret
        exact ⟨rfl, .inr ⟨g, cs, rfl, hbg, hB, by rw [pmarks_length]; exact hs, fun j hj => by rw [pmarks_get]; exact hM j (by rw [pmarks_length] at hj; exact hj)⟩, hG⟩

set_option maxRecDepth 100000 in
set_option maxHeartbeats 2000000 in
theorem laws_heldPairS (A : Option Addr) (n c : Nat) (w : World) (hr : PR w w.heap.size A (pmarks n)) (hz : n ≤ 1048577) :
    Calls Try.prog 69 #[.slice A n c, .int .i64 1] w fun e w' => e = .returned (.int .i64 (1 + 2 * (n : Int))) ∧ w = w' := by
  go_enter Try.func69, Try.ntmps69
  go_wp2_with fail
  go_loop [1, 5] (fun kk i => ∃ k : Nat, k ≤ n ∧ i = .int .i64 k ∧ kk = .int .i64 (1 + 2 * (k : Int))) (fun _ i => n - (intOf i).toNat)
  case atStart => exact ⟨0, Nat.zero_le _, rfl, rfl⟩
  case round =>
    obtain ⟨k, hk, rfl, rfl⟩ := hrel
    by_cases hlt : k < n
    · obtain ⟨pg, po, rfl, hpg, hpc⟩ := hr (by rw [pmarks_length]; omega)
      have hx := hpc k (by rw [pmarks_length]; exact hlt)
      rw [pmarks_get] at hx
      obtain ⟨x0, x1⟩ := hx
      clear hpc hpg
      go_wp2_with fail
      go_round
      case rel => exact ⟨k + 1, by omega, by go_num, vintK (by omega)⟩
      case measure => simp [intOf]; omega
    · obtain rfl : k = n := by omega
      go_wp2_with fail
      go_ret
      exact ⟨rfl, rfl⟩

set_option maxRecDepth 100000 in
set_option maxHeartbeats 2000000 in
theorem laws_markKnown (o l m : Int) (A : Option Addr) (c : Nat) (b t : Int) (ps : List (Int × Int)) (base : Nat) (w : World) (hr : OwnP w base A ps) (hz : ps.length ≤ 1048577) :
    Calls Try.prog 19 #[kv o l m A ps.length c b t, .int .i64 1] w fun e w' => e = .returned (.int .i64 (1 + 2 * (ps.length : Int))) ∧ OwnP w' base A (pmarks ps.length) ∧ w.grownBy w' (blkOf A) := by
  have B0 : Below w.heap.size w (w.alloc (.cells #[.int .i64 o, .int .i64 l, .int .i64 m, .slice A ps.length c, .int .i64 b, .int .i64 t] 31)) := (Below.refl _ _).alloc (Nat.le_refl _) _
  have CM := hide (laws_markPairS A c ps base _ (hr.below B0) hz)
  go_enter Try.func19, Try.ntmps19
  go_wp2_with fail
  refine (unhide CM).mono ?_; rintro e w1 ⟨rfl, hm, hg⟩
  go_wp2_with fail
  go_ret
  exact ⟨rfl, hm, ⟨hg.os, hg.tape, hg.output, Nat.le_trans B0.size hg.size, fun k hk hne => (hg.block k (Nat.lt_of_lt_of_le hk B0.size) hne).trans (B0.block k hk)⟩⟩

set_option maxRecDepth 100000 in
set_option maxHeartbeats 2000000 in
theorem laws_heldKnown (o l m : Int) (A : Option Addr) (n c : Nat) (b t : Int) (w : World) (hr : PR w w.heap.size A (pmarks n)) (hz : n ≤ 1048577) :
    Calls Try.prog 20 #[kv o l m A n c b t, .int .i64 1] w fun e w' => e = .returned (.int .i64 (1 + 2 * (n : Int))) ∧ Below w.heap.size w w' := by
  have B0 : Below w.heap.size w (w.alloc (.cells #[.int .i64 o, .int .i64 l, .int .i64 m, .slice A n c, .int .i64 b, .int .i64 t] 31)) := (Below.refl _ _).alloc (Nat.le_refl _) _
  have CM := hide (laws_heldPairS A n c _ (hr.keep B0.size B0) hz)
  go_enter Try.func20, Try.ntmps20
  go_wp2_with fail
  refine (unhide CM).mono ?_; rintro e w1 ⟨rfl, rfl⟩
  go_wp2_with fail
  go_ret
  exact ⟨rfl, B0⟩
end Go.Proofs.Ytegfcpdkehgdpaa

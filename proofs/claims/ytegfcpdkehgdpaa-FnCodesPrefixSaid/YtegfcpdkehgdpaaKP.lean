/- The walks of the marks that the exact laws lay on pairs. Conditions: the pairs lie in a row of the call's own, or there is none. -/
import Derived.Test.YtegfcpdkehgdpaaKM
namespace Go.Proofs.Ytegfcpdkehgdpaa
open Go.RowKit

theorem vintK {k : IntKind} {a b : Int} (h : a = b) : Value.int k a = .int k b := by rw [h]
/-- Pairs in a row of the call's own, from block base on. -/
def OwnP (w : World) (base : Nat) (A : Option Addr) (ps : List (Int × Int)) : Prop :=
  ps = [] ∨ ∃ g cs, A = some ⟨g, 0, none⟩ ∧ base ≤ g ∧ Blk w g 63 cs ∧ ps.length * 2 ≤ cs.size ∧ ∀ j (h : j < ps.length), cs[j * 2]? = some (.int .i64 (ps[j]).1) ∧ cs[j * 2 + 1]? = some (.int .i64 (ps[j]).2)
def blkOf (A : Option Addr) : Option Nat := A.map (·.block)
theorem OwnP.of_blk {w : World} {base g : Nat} {ps : List (Int × Int)} (h : Blk w g 63 (pcells ps)) (hg : base ≤ g) : OwnP w base (some ⟨g, 0, none⟩) ps :=
  .inr ⟨g, _, rfl, hg, h, by rw [pcells_size]; exact Nat.le_refl _, fun j hj => by
    have := pvals_get ps j hj
    exact ⟨by unfold pcells; simpa using this.1, by unfold pcells; simpa using this.2⟩⟩
theorem OwnP.of_own {w : World} {base n c : Nat} {A : Option Addr} {ps : List (Int × Int)} (hn : ps.length = n) (h : w.ownsRow base 63 2 (.slice A n c) n (pvals ps)) : OwnP w base A ps := by
  subst hn
  rcases h.2 with ⟨_, h0⟩ | ⟨g, cap, cur, hv, hb, hh, hc, _, hsz, htk⟩
  · exact .inl (List.eq_nil_of_length_eq_zero h0)
  · injection hv with hA _ _
    refine .inr ⟨g, cur, hA, hb, hh, by rw [hsz]; exact Nat.mul_le_mul_right _ hc, fun j hj => ?_⟩
    have hp := pvals_get ps j hj
    have key : ∀ i u, i < ps.length * 2 → (pvals ps)[i]? = some u → cur[i]? = some u := fun i u hi hu => by
      rw [← htk, List.getElem?_take, if_pos hi] at hu
      simpa using hu
    exact ⟨key _ _ (by omega) hp.1, key _ _ (by omega) hp.2⟩
theorem OwnP.pr {w : World} {base B : Nat} {A : Option Addr} {ps : List (Int × Int)} (h : OwnP w base A ps) (hB : w.heap.size ≤ B) : PR w B A ps := fun h0 => by
  rcases h with rfl | ⟨g, cs, rfl, _, hk, _, hc⟩
  · simp at h0
  · exact ⟨g, 0, rfl, Nat.lt_of_lt_of_le hk.lt hB, fun k hk2 => by rw [Nat.zero_add]; exact ⟨(hk.cell _).trans (hc k hk2).1, (hk.cell _).trans (hc k hk2).2⟩⟩
theorem OwnP.keep {w w' : World} {base : Nat} {A : Option Addr} {ps : List (Int × Int)} (h : OwnP w base A ps) (hk : ∀ g, some g = blkOf A → g < w.heap.size → w'.heap[g]? = w.heap[g]?) : OwnP w' base A ps := by
  rcases h with rfl | ⟨g, cs, rfl, hb, hB, hz, hc⟩
  · exact .inl rfl
  · exact .inr ⟨g, cs, rfl, hb, (hk g rfl hB.lt).trans hB, hz, hc⟩
theorem OwnP.below {w w' : World} {base : Nat} {A : Option Addr} {ps : List (Int × Int)} (h : OwnP w base A ps) (hb : Below w.heap.size w w') : OwnP w' base A ps := h.keep fun g _ hg => hb.block g hg
/-- The marks of n pairs. -/
def pmarks (n : Nat) : List (Int × Int) := (List.range n).map fun (j : Nat) => (1 + 2 * (j : Int), 1 + 2 * (j : Int) + 1)
/-- The first k pairs bear their marks. -/
def MarkTo (cs : Array Value) (k : Nat) : Prop := ∀ j, j < k → cs[j * 2]? = some (.int .i64 (1 + 2 * (j : Int))) ∧ cs[j * 2 + 1]? = some (.int .i64 (1 + 2 * (j : Int) + 1))
theorem MarkTo.step {cs : Array Value} {k : Nat} (h : MarkTo cs k) (hz : k * 2 + 1 < cs.size) : MarkTo ((cs.setIfInBounds (k * 2) (.int .i64 (1 + 2 * (k : Int)))).setIfInBounds (k * 2 + 1) (.int .i64 (1 + 2 * (k : Int) + 1))) (k + 1) := fun j hj => by
  simp only [Array.getElem?_setIfInBounds, Array.size_setIfInBounds]
  by_cases hjk : j = k
  · subst hjk
    exact ⟨by rw [if_neg (by omega), if_pos rfl, if_pos (by omega)], by rw [if_pos rfl, if_pos (by omega)]⟩
  · have := h j (by omega)
    exact ⟨by rw [if_neg (by omega), if_neg (by omega)]; exact this.1, by rw [if_neg (by omega), if_neg (by omega)]; exact this.2⟩

end Go.Proofs.Ytegfcpdkehgdpaa

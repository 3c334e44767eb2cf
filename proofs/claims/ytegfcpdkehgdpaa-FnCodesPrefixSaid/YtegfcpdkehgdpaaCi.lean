/- The walks of the exact laws' helpers on rows of numbers. Conditions: the numbers' cells lie below the call's own memory, or in a row of its own. -/
import Derived.Test.YtegfcpdkehgdpaaKP
namespace Go.Proofs.Ytegfcpdkehgdpaa
open Go.RowKit

/-- Numbers in memory, below block B. -/
def IR (w : World) (B : Nat) (A : Option Addr) (xs : List Int) : Prop := 0 < xs.length → ∃ g off, A = some ⟨g, off, none⟩ ∧ g < B ∧ ∀ k (h : k < xs.length), w.cell? ⟨g, off + k, none⟩ = some (.int .i64 xs[k])
def ivals (xs : List Int) : List Value := xs.map fun x => .int .i64 x
theorem ivals_length (xs : List Int) : (ivals xs).length = xs.length := by simp [ivals]
theorem ivals_get (xs : List Int) (j : Nat) (h : j < xs.length) : (ivals xs)[j]? = some (.int .i64 xs[j]) := by simp [ivals, h]
theorem ivals_append (xs ys : List Int) : ivals (xs ++ ys) = ivals xs ++ ivals ys := by simp [ivals]
theorem IR.keep {w w' : World} {B B' : Nat} {A : Option Addr} {xs : List Int} (h : IR w B A xs) (hB : B ≤ B') (hb : Below B w w') : IR w' B' A xs := fun h0 => by
  obtain ⟨g, off, hA, hg, hc⟩ := h h0
  exact ⟨g, off, hA, by omega, fun k hk => (hb.cell (p := ⟨g, off + k, none⟩) hg).trans (hc k hk)⟩
/-- Numbers in a row of the call's own, from block base on. -/
def OwnI (w : World) (base : Nat) (A : Option Addr) (xs : List Int) : Prop :=
  xs = [] ∨ ∃ g cs, A = some ⟨g, 0, none⟩ ∧ base ≤ g ∧ Blk w g 3 cs ∧ xs.length ≤ cs.size ∧ ∀ j (h : j < xs.length), cs[j]? = some (.int .i64 xs[j])
theorem OwnI.of_own {w : World} {base n c : Nat} {A : Option Addr} {xs : List Int} (hn : xs.length = n) (h : w.ownsRow base 3 1 (.slice A n c) n (ivals xs)) : OwnI w base A xs := by
  subst hn
  rcases h.2 with ⟨_, h0⟩ | ⟨g, cap, cur, hv, hb, hh, hc, _, hsz, htk⟩
  · exact .inl (List.eq_nil_of_length_eq_zero h0)
  · injection hv with hA _ _
    refine .inr ⟨g, cur, hA, hb, hh, by omega, fun j hj => ?_⟩
    have hp := ivals_get xs j hj
    rw [← htk, List.getElem?_take, if_pos (by omega)] at hp
    simpa using hp
theorem OwnI.ir {w : World} {base B : Nat} {A : Option Addr} {xs : List Int} (h : OwnI w base A xs) (hB : w.heap.size ≤ B) : IR w B A xs := fun h0 => by
  rcases h with rfl | ⟨g, cs, rfl, _, hk, _, hc⟩
  · simp at h0
  · exact ⟨g, 0, rfl, Nat.lt_of_lt_of_le hk.lt hB, fun k hk2 => by rw [Nat.zero_add]; exact (hk.cell _).trans (hc k hk2)⟩
theorem OwnI.keep {w w' : World} {base : Nat} {A : Option Addr} {xs : List Int} (h : OwnI w base A xs) (hk : ∀ g, some g = blkOf A → g < w.heap.size → w'.heap[g]? = w.heap[g]?) : OwnI w' base A xs := by
  rcases h with rfl | ⟨g, cs, rfl, hb, hB, hz, hc⟩
  · exact .inl rfl
  · exact .inr ⟨g, cs, rfl, hb, (hk g rfl hB.lt).trans hB, hz, hc⟩
theorem OwnI.below {w w' : World} {base : Nat} {A : Option Addr} {xs : List Int} (h : OwnI w base A xs) (hb : Below w.heap.size w w') : OwnI w' base A xs := h.keep fun g _ hg => hb.block g hg
/-- The first k numbers stand in a row. -/
def RowI (cs : Array Value) (xs : List Int) (k : Nat) : Prop := cs.size = xs.length ∧ ∀ j (h : j < xs.length), j < k → cs[j]? = some (.int .i64 xs[j])
theorem RowI.step {cs : Array Value} {xs : List Int} {k : Nat} (h : RowI cs xs k) (hk : k < xs.length) : RowI (cs.setIfInBounds k (.int .i64 xs[k])) xs (k + 1) := by
  have hz := h.1
  refine ⟨by simpa using hz, fun j hj hjk => ?_⟩
  simp only [Array.getElem?_setIfInBounds]
  by_cases hjk' : j = k
  · subst hjk'
    rw [if_pos rfl, if_pos (by omega)]
  · rw [if_neg (by omega)]
    exact h.2 j hj (by omega)
/-- The marks of n numbers. -/
def imarks (n : Nat) : List Int := (List.range n).map fun (j : Nat) => 1 + (j : Int)
def MarkI (cs : Array Value) (k : Nat) : Prop := ∀ j, j < k → cs[j]? = some (.int .i64 (1 + (j : Int)))
theorem MarkI.step {cs : Array Value} {k : Nat} (h : MarkI cs k) (hz : k < cs.size) : MarkI (cs.setIfInBounds k (.int .i64 (1 + (k : Int)))) (k + 1) := fun j hj => by
  simp only [Array.getElem?_setIfInBounds]
  by_cases hjk : j = k
  · subst hjk
    rw [if_pos rfl, if_pos (by omega)]
  · rw [if_neg (by omega)]
    exact h j (by omega)
theorem try_infoI : (Try.prog.info? 3).map (fun i => (i.zero, i.size, i.bytes)) = some (some (.int .i64 0), 1, 8) := by kernel_rfl

end Go.Proofs.Ytegfcpdkehgdpaa

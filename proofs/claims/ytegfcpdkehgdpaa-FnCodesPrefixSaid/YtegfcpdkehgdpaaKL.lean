/- The walks of the conversions and comparisons that the exact laws use on known things. Conditions: the pairs' cells lie below the call's own memory. -/
import Derived.Test.YtegfcpdkehgdpaaK2
import Derived.Test.YtegfcpdkehgdpaaT
namespace Go.Proofs.Ytegfcpdkehgdpaa
open Go.RowKit

def pvals (ps : List (Int × Int)) : List Value := ps.flatMap fun p => [.int .i64 p.1, .int .i64 p.2]
def pcells (ps : List (Int × Int)) : Array Value := (pvals ps).toArray
theorem pvals_cons (p : Int × Int) (ps : List (Int × Int)) : pvals (p :: ps) = .int .i64 p.1 :: .int .i64 p.2 :: pvals ps := rfl
theorem pvals_append (a b : List (Int × Int)) : pvals (a ++ b) = pvals a ++ pvals b := List.flatMap_append
theorem pvals_length (ps : List (Int × Int)) : (pvals ps).length = ps.length * 2 := by
  induction ps with
  | nil => rfl
  | cons p ps ih => rw [pvals_cons]; simp [ih]; omega
theorem pvals_get : ∀ (ps : List (Int × Int)) (k : Nat) (h : k < ps.length), (pvals ps)[k * 2]? = some (.int .i64 (ps[k]).1) ∧ (pvals ps)[k * 2 + 1]? = some (.int .i64 (ps[k]).2)
  | [], k, h => by simp at h
  | p :: ps, 0, _ => ⟨rfl, rfl⟩
  | p :: ps, k + 1, h => by
    have := pvals_get ps k (by simpa using h)
    rw [pvals_cons, show (k + 1) * 2 = k * 2 + 1 + 1 from by omega]
    simpa using this
theorem pcells_size (ps : List (Int × Int)) : (pcells ps).size = ps.length * 2 := by unfold pcells; rw [List.size_toArray, pvals_length]
theorem PR.of_blk {w : World} {g B : Nat} {t : TypeId} {ps : List (Int × Int)} (h : Blk w g t (pcells ps)) (hg : g < B) : PR w B (some ⟨g, 0, none⟩) ps := fun _ =>
  ⟨g, 0, rfl, hg, fun k hk => by
    have := pvals_get ps k hk
    rw [Nat.zero_add]
    exact ⟨(h.cell _).trans (by unfold pcells; simpa using this.1), (h.cell _).trans (by unfold pcells; simpa using this.2)⟩⟩
/-- The first k pairs stand in a row. -/
def RowTo (cs : Array Value) (ps : List (Int × Int)) (k : Nat) : Prop := cs.size = ps.length * 2 ∧ ∀ j (h : j < ps.length), j < k → cs[j * 2]? = some (.int .i64 (ps[j]).1) ∧ cs[j * 2 + 1]? = some (.int .i64 (ps[j]).2)
theorem RowTo.step {cs : Array Value} {ps : List (Int × Int)} {k : Nat} (h : RowTo cs ps k) (hk : k < ps.length) :
    RowTo ((cs.setIfInBounds (k * 2) (.int .i64 (ps[k]).1)).setIfInBounds (k * 2 + 1) (.int .i64 (ps[k]).2)) ps (k + 1) := by
  have hz := h.1
  refine ⟨by simpa using hz, fun j hj hjk => ?_⟩
  simp only [Array.getElem?_setIfInBounds, Array.size_setIfInBounds]
  by_cases hjk' : j = k
  · subst hjk'
    exact ⟨by rw [if_neg (by omega), if_pos rfl, if_pos (by omega)], by rw [if_pos rfl, if_pos (by omega)]⟩
  · have := h.2 j hj (by omega)
    exact ⟨by rw [if_neg (by omega), if_neg (by omega)]; exact this.1, by rw [if_neg (by omega), if_neg (by omega)]; exact this.2⟩
theorem RowTo.all {cs : Array Value} {ps : List (Int × Int)} (h : RowTo cs ps ps.length) : cs = pcells ps := by
  apply Array.ext
  · rw [h.1, pcells_size]
  · intro i h1 h2
    have hi : i < ps.length * 2 := by rw [← h.1]; exact h1
    have hc := h.2 (i / 2) (by omega) (by omega)
    have hp := pvals_get ps (i / 2) (by omega)
    have e1 : ∀ j, (pcells ps)[j]? = (pvals ps)[j]? := fun j => by rw [pcells, List.getElem?_toArray]
    by_cases he : i % 2 = 0
    · have ei : i / 2 * 2 = i := by omega
      rw [ei] at hc hp
      have := hc.1.trans (hp.1.symm.trans (e1 i).symm)
      rwa [Array.getElem?_eq_getElem h1, Array.getElem?_eq_getElem h2, Option.some.injEq] at this
    · have ei : i / 2 * 2 + 1 = i := by omega
      rw [ei] at hc hp
      have := hc.2.trans (hp.2.symm.trans (e1 i).symm)
      rwa [Array.getElem?_eq_getElem h1, Array.getElem?_eq_getElem h2, Option.some.injEq] at this

theorem try_infoP : (Try.prog.info? 63).map (fun i => (i.zero, i.size, i.bytes)) = some (some (.agg #[.int .i64 0, .int .i64 0]), 2, 16) := by kernel_rfl

end Go.Proofs.Ytegfcpdkehgdpaa

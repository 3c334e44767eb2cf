/- A slice of numbers that came in, as the walks want it. Conditions: those that each lemma names. -/
import Derived.Test.YtegfcpdkehgdpaaLiftK
import Derived.Test.YtegfcpdkehgdpaaCi
namespace Go.Proofs.Ytegfcpdkehgdpaa
open Go.ChangeShapes Go.WideShapes Go.ChangeAt Go.RowKit Go.Joins

theorem ints_of {H : Type} {enc : TypeId × Value → H} {W : World} {a : Option Addr} {len cap : Nat} {d : DataW H} {p : List MemPlace}
    (h : DataW.Trod enc Try.prog W 0 (fun _ => true) true 38 (.slice a len cap) d p) : ∃ xs : List Int, xs.length = len ∧ IR W W.heap.size a xs ∧ len ≤ maxLen := by
  obtain ⟨fuel, hf⟩ := h
  rcases open_ints Try.underlying38 Try.underlying3 (by kernel_rfl) hf with ⟨hcs, _⟩ | ⟨x, l, c, zs, hcs, _, hl, hm, hz, hx, hcell, hwz⟩
  · simp [Value.cells] at hcs
    obtain ⟨rfl, rfl, rfl⟩ := hcs
    exact ⟨[], rfl, fun h => absurd h (by simp), Nat.zero_le _⟩
  · simp [Value.cells] at hcs
    obtain ⟨rfl, rfl, rfl⟩ := hcs
    have hz' : zs.length = cap := by simpa using hz
    refine ⟨(List.range len).map fun j => zs.getD j 0, by simp, fun hn => ?_, Nat.le_trans hl hm⟩
    have hn : 0 < len := by simpa using hn
    obtain ⟨b, off, rfl, hc⟩ := ints_at hcell (by omega)
    have hb : b < W.heap.size := by
      have := hc 0 (by omega)
      exact World.block_lt_of_cell? W _ this
    refine ⟨b, off, rfl, hb, fun j hj => ?_⟩
    have hj : j < len := by simpa using hj
    simp only [List.getElem_map, List.getElem_range]
    exact hc j (by omega)
end Go.Proofs.Ytegfcpdkehgdpaa

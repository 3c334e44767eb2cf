/- A slice of bytes that came in, as the walks want it. Conditions: those that each lemma names. -/
import Derived.Test.YthdmnpjdpfeleaaDoorLift
import Derived.Test.YthdmnpjdpfeleaaDoorRd
import Derived.OpenShut
import Derived.ChangeOld
import Derived.ShutString
namespace Go.Proofs.YthdmnpjdpfeleaaDoor
open Go.ChangeShapes Go.WideShapes Go.ChangeAt Go.RowKit Go.Joins

theorem try_laid : laidOutB Tryd.prog = true := by kernel_rfl
theorem src_of {H : Type} {enc : TypeId × Value → H} {W : World} {a : Option Addr} {len cap : Nat} {d : DataW H} {p : List MemPlace}
    (h : DataW.Trod enc Tryd.prog W 0 (fun _ => true) true 32 (.slice a len cap) d p) : Src W W.heap.size a len ∧ len ≤ cap ∧ cap ≤ maxLen := by
  have k := h
  have lt : ∀ x ∈ p, x.block < W.heap.size := by obtain ⟨m, hm⟩ := k; exact DataW.trod_lt m _ _ _ hm
  obtain ⟨fuel, hf⟩ := h
  rcases open_ints Tryd.underlying32 Tryd.underlying5 (by kernel_rfl) hf with ⟨hcs, _⟩ | ⟨x, l, c, zs, hcs, _, hl, hm, hz, hx, hcell, hwz⟩
  · simp [Value.cells] at hcs
    obtain ⟨rfl, rfl, rfl⟩ := hcs
    exact ⟨fun h => absurd h (by omega), Nat.le_refl _, by simp [maxLen]⟩
  · simp [Value.cells] at hcs
    obtain ⟨rfl, rfl, rfl⟩ := hcs
    refine ⟨fun hn => ?_, hl, hm⟩
    have hz' : zs.length = cap := by simpa using hz
    obtain ⟨b, off, rfl, hc⟩ := ints_at hcell (by omega)
    have hb : b < W.heap.size := by
      have := hc 0 (by omega)
      exact World.block_lt_of_cell? W _ this
    refine ⟨b, off, rfl, hb, fun j hj => ⟨zs.getD j 0, ?_, ?_, hc j (by omega)⟩⟩
    all_goals
      have hw : (Lit.int .u8 (zs.getD j 0)).wf = true := hwz _ (by
        rw [List.getD_eq_getElem?_getD, List.getElem?_eq_getElem (by omega)]; exact List.getElem_mem _)
      simp [Lit.wf, IntKind.min, IntKind.max, IntKind.signed, IntKind.bits] at hw
      simp
      omega
end Go.Proofs.YthdmnpjdpfeleaaDoor

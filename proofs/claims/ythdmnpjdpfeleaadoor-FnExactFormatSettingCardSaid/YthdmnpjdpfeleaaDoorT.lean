/- The walk of toSetting. Conditions: none. -/
import Derived.Test.YthdmnpjdpfeleaaDoorS
namespace Go.Proofs.YthdmnpjdpfeleaaDoor
open Go.RowKit

set_option maxHeartbeats 1000000 in
theorem laws_toSetting (o l m : Int) (w : World) :
    Calls Tryd.prog 10 #[sv o l m] w fun e w' => e = .returned (sv o l m) ∧ Below w.heap.size w w' := by
  go_enter Tryd.func10, Tryd.ntmps10
  go_wp2
  exact bodyPost_ret (v := sv o l m) (by simp [results, Tryd.results10, go_sem]) rfl ⟨rfl, (by repeat' (first | exact Below.refl _ _ | assumption | exact Nat.le_refl _ | apply Below.alloc | apply Below.drew | (focus (simp; done)) | (focus (simp; omega)) | omega))⟩

end Go.Proofs.YthdmnpjdpfeleaaDoor

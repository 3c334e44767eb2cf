/- The walk of toSetting. Conditions: none. -/
import Derived.Test.YtegfcpdkehgdpaaS
namespace Go.Proofs.Ytegfcpdkehgdpaa
open Go.RowKit

set_option maxHeartbeats 1000000 in
theorem laws_toSetting (o l m : Int) (w : World) :
    Calls Try.prog 60 #[sv o l m] w fun e w' => e = .returned (sv o l m) ∧ Below w.heap.size w w' := by
  go_enter Try.func60, Try.ntmps60
  go_wp2
  exact bodyPost_ret (v := sv o l m) (by simp [results, Try.results60, go_sem]) rfl ⟨rfl, (by repeat' (first | exact Below.refl _ _ | assumption | exact Nat.le_refl _ | apply Below.alloc | apply Below.drew | (focus (simp; done)) | (focus (simp; omega)) | omega))⟩

end Go.Proofs.Ytegfcpdkehgdpaa

/- From what a row lists, and the world's shape, to what the walks read. Conditions: those that each lemma names. -/
import Derived.Test.YthdmnpjdpfeleaaDoorPs2
import Derived.Test.YthdmnpjdpfeleaaDoorLaid
import Derived.Stop.LaidErr
import Derived.Shelf.Vars
import Derived.Lay
namespace Go.Proofs.YthdmnpjdpfeleaaDoor
open Go.RowKit

/-- The name of the errors' type, as the row lists it. -/
abbrev errName : String := match (Rows.laid_strconv_ErrRange : DataW Unit) with
  | .iface n _ => n
  | _ => ""
theorem env_rows (X : String) (h : X = errName) : ((List.range Tryd.prog.types.size).all fun u => Tryd.prog.typeName? 3 u != some X || u == 99) = true := by
  subst h; kernel_rfl
theorem env_row (u : TypeId) (h : Tryd.prog.typeName? 3 u = some errName) : u = 99 :=
  typeName_ptr_named (nm := "errors.errorString") (env_rows _ (by decide)) (by kernel_rfl) (by decide) u (h.trans (congrArg some (by decide)))
theorem env_gT : Tryd.prog.globalNamed tabName = some 3 := by kernel_rfl
theorem env_gS : Tryd.prog.globalNamed "strconv.ErrSyntax" = some 1 := by kernel_rfl
theorem env_gR : Tryd.prog.globalNamed "strconv.ErrRange" = some 2 := by kernel_rfl
theorem env_tT : (Tryd.prog.globals[3]?).map (·.type) = some 87 := by kernel_rfl
theorem env_tS : (Tryd.prog.globals[1]?).map (·.type) = some 51 := by kernel_rfl
theorem env_tR : (Tryd.prog.globals[2]?).map (·.type) = some 51 := by kernel_rfl
theorem env_c1 : Tryd.prog.cellsOf 74 = 1 := by kernel_rfl
theorem env_c20 : Tryd.prog.cellsOf 87 = 20 := by kernel_rfl
theorem env_cE : Tryd.prog.cellsOf 101 = 1 := by kernel_rfl
theorem env_cS : Tryd.prog.cellsOf 9 = 1 := by kernel_rfl
theorem env_of {W : World} (hL : laidMetH Tryd.prog Rows.fnExactParseSettingRow.laid W) (hS : W.ShapedOpen Tryd.prog) : Env W := by
  rw [MakeChecks.laidMetH_plain _ _ _ (by kernel_rfl)] at hL
  have h3 : laidMet Tryd.prog ((tabName, Lib.tabData .u64 Lib.pow10Tab) :: Rows.fnExactParseSettingRow.laid.drop 3) W := hL.tail.tail
  have h5 := hL.tail.tail.tail.tail
  have h6 := h5.tail
  obtain ⟨aR, sR, hvR, _⟩ := laid_sentinel h5 env_gR env_tR Tryd.underlying51 env_row Tryd.underlying99 Tryd.underlying101 rfl rfl Tryd.underlying9 env_cE env_cS
  obtain ⟨aS, sS, hvS, _⟩ := laid_sentinel h6 env_gS env_tS Tryd.underlying51 env_row Tryd.underlying99 Tryd.underlying101 rfl rfl Tryd.underlying9 env_cE env_cS
  obtain ⟨m, hm⟩ := cell_of_shapedOpen_int (zero := #[.int .i64 0]) (g := 0) (t := 3) hS (of_decide_eq_true (by kernel_rfl)) (by kernel_rfl) rfl (by kernel_rfl) (by kernel_rfl) Tryd.underlying3
  have cS : W.cell? ⟨1, 0, none⟩ = some (.iface 99 (.pointer (some aS))) := by
    have := World.var?_cell env_gS hvS 0
    simpa using this
  have cR : W.cell? ⟨2, 0, none⟩ = some (.iface 99 (.pointer (some aR))) := by
    have := World.var?_cell env_gR hvR 0
    simpa using this
  exact ⟨Lib.tabIs_of_head env_gT env_tT Tryd.underlying87 Tryd.underlying74 env_c1 env_c20 h3, ⟨_, _, cS⟩, ⟨_, _, cR⟩, m, hm⟩
end Go.Proofs.YthdmnpjdpfeleaaDoor

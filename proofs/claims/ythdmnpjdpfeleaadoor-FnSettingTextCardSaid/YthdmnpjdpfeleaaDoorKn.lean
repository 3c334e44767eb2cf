/- What a region that holds calls keeps: cells below what each call makes. Conditions: those that each lemma names. -/
import Derived.Test.YthdmnpjdpfeleaaDoorCd
import Derived.Test.YthdmnpjdpfeleaaDoorBytes
import Derived.Deep.QuietTactic
import Derived.BigQuiet
import Derived.Deep.RegionHeld3
import Derived.Outline
namespace Go.Proofs.YthdmnpjdpfeleaaDoor
open Go.RowKit

theorem cell_keep {W w' : World} (hb : Below W.heap.size W w') {p : Addr} {v : Value} (h : W.cell? p = some v) : w'.cell? p = some v := (hb.cell (World.block_lt_of_cell? W _ h)).trans h
/-- The value of something known. -/
abbrev kv (o l m : Int) (A : Option Addr) (n c : Nat) (b t : Int) : Value := .agg #[.int .i64 o, .int .i64 l, .int .i64 m, .slice A n c, .int .i64 b, .int .i64 t]
theorem keep3 {w W w' : World} {p0 p1 p2 : Addr} {v0 v1 v2 : Value} (hb : Below W.heap.size W w') (h : Below w.heap.size w W ∧ W.cell? p0 = some v0 ∧ W.cell? p1 = some v1 ∧ W.cell? p2 = some v2) : Below w.heap.size w w' ∧ w'.cell? p0 = some v0 ∧ w'.cell? p1 = some v1 ∧ w'.cell? p2 = some v2 :=
  ⟨below_next (Nat.le_refl _) h.1 hb, cell_keep hb h.2.1, cell_keep hb h.2.2.1, cell_keep hb h.2.2.2⟩
end Go.Proofs.YthdmnpjdpfeleaaDoor

/- The walks of the drawn inputs: each draw returns some value in range. Conditions: a slice of at most 1048576 bytes. -/
import Derived.Test.YthdmnpjdpfeleaaDoorRd
namespace Go.Proofs.YthdmnpjdpfeleaaDoor
open Go.RowKit

theorem draw_next {w w1 w2 : World} {B g p : Nat} (hB : B ≤ w.heap.size) (hb : Below B w w1) (hr : Rd w1 B g p) (hg : w1.grownBy w2 (some g)) : Below B w w2 :=
  hb.grown hg (Nat.le_trans hB hb.size) fun k hk => by injection hk with hk; subst hk; exact hr.1
theorem draw_past {w w1 w2 : World} {B g : Nat} (hB : B ≤ w.heap.size) (hb : Below B w w1) (hr : B ≤ g) (hg : w1.grownBy w2 (some g)) : Below B w w2 :=
  hb.grown hg (Nat.le_trans hB hb.size) fun k hk => by injection hk with hk; subst hk; exact hr
theorem Src.next {w w' : World} {A : Option Addr} {n : Nat} (h : Src w w.heap.size A n) (hb : Below w.heap.size w w') : Src w' w'.heap.size A n := fun hn => by
  obtain ⟨b, off, rfl, h1, h2⟩ := h hn
  refine ⟨b, off, rfl, Nat.lt_of_lt_of_le h1 hb.size, fun k hk => ?_⟩
  obtain ⟨x, x0, x1, hx⟩ := h2 k hk
  exact ⟨x, x0, x1, (World.cell?_of_block (hb.block _ h1)).trans hx⟩
theorem nums_new (w : World) (t : TypeId) (Q : Int → Prop) (l : List Int) (h : ∀ x ∈ l, Q x) : ∀ i, i < l.length → ∃ x : Int, Q x ∧ (w.alloc (.cells (l.map (Value.int .i64)).toArray t)).cell? ⟨w.heap.size, i, none⟩ = some (.int .i64 x) := fun i hi => by
  refine ⟨l[i], h _ (List.getElem_mem _), ?_⟩
  have hb : Blk (w.alloc (.cells (l.map (Value.int .i64)).toArray t)) w.heap.size t (l.map (Value.int .i64)).toArray := Blk.new w t _
  rw [hb.cell]
  simp [hi]
/-- An int that fits. -/
def Fits (x : Int) : Prop := -9223372036854775808 ≤ x ∧ x ≤ 9223372036854775807
def IntIs (Q : Int → Prop) (v : Value) : Prop := ∃ x : Int, v = .int .i64 x ∧ Q x
theorem fits_wrap (x : Int) : Fits (wrap64 x) := by unfold Fits wrap64; omega
/-- A draw of an int. -/
def DrawI (Q : Int → Prop) (w : World) (e : Ending) (w' : World) : Prop := ∃ v : Int, e = .returned (.int .i64 v) ∧ Q v ∧ Below w.heap.size w w'
theorem num_list {B g p c : Nat} {Q : Int → Prop} {w : World} (l : List Int) (t : TypeId) (h : Rd w B g p) (hp : p ≤ 10000000) (hl : 1 ≤ l.length) (hl2 : l.length ≤ 1000) (hQ : ∀ x ∈ l, Q x) :
    Calls Tryd.prog 32 #[.pointer (some ⟨g, 0, none⟩), .slice (some ⟨w.heap.size, 0, none⟩) l.length c] (w.alloc (.cells (l.map (Value.int .i64)).toArray t)) fun e w' => ∃ x : Int, e = .returned (.int .i64 x) ∧ Q x ∧ Rd w' B g (p + 1) ∧ w.grownBy w' (some g) := by
  have hr : Rd (w.alloc (.cells (l.map (Value.int .i64)).toArray t)) B g p := h.below ((Below.refl _ _).alloc (Nat.le_refl _) _)
  refine (rd_num B g p w.heap.size l.length c (IntIs Q) _ hr hp hl hl2 (by have := h.lt; omega) fun i hi => ?_).mono ?_
  · obtain ⟨x, hx, hc⟩ := nums_new w t Q l hQ i hi
    exact ⟨x, ⟨x, rfl, hx⟩, hc⟩
  · rintro e w' ⟨v, rfl, ⟨x, rfl, hx⟩, h1, h2⟩
    exact ⟨x, rfl, hx, h1, ⟨h2.os, h2.tape, h2.output, Nat.le_trans (by simp) h2.size, fun k hk hne => (h2.block k (by simp; omega) hne).trans (Below.heap_alloc w _ k hk)⟩⟩

/-- A function of the reader that returns an int. -/
def RdI (Q : Int → Prop) (B g p d : Nat) (w : World) (e : Ending) (w' : World) : Prop := ∃ v : Int, e = .returned (.int .i64 v) ∧ Q v ∧ ∃ p', p' ≤ p + d ∧ Rd w' B g p' ∧ w.grownBy w' (some g)
theorem grown_trans' {a b c : World} {g : Nat} (h : a.grownBy b (some g)) (k : b.grownBy c (some g)) : a.grownBy c (some g) :=
  ⟨k.os.trans h.os, k.tape.trans h.tape, k.output.trans h.output, Nat.le_trans h.size k.size, fun i hi hne => (k.block i (Nat.lt_of_lt_of_le hi h.size) hne).trans (h.block i hi hne)⟩

end Go.Proofs.YthdmnpjdpfeleaaDoor

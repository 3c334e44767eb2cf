/- Something known that came in by value, as the walks want it. Conditions: those that each lemma names. -/
import Derived.Test.YtegfcpdkehgdpaaLift
import Derived.Test.YtegfcpdkehgdpaaKL
import Derived.OpenShut
import Derived.ChangeOld
import Derived.ShutString
import Derived.Deep.Slices
import Derived.Deep.Strs
namespace Go.Proofs.Ytegfcpdkehgdpaa
open Go.ChangeShapes Go.WideShapes Go.ChangeAt Go.RowKit Go.Joins

theorem try_laid : laidOutB Try.prog = true := by kernel_rfl
theorem cells_K : Try.prog.cellsOf 26 = 6 := by kernel_rfl
theorem cells_KS : Try.prog.cellsOf 23 = 3 := by kernel_rfl
theorem cells_KP : Try.prog.cellsOf 92 = 2 := by kernel_rfl
theorem cells_KPs : Try.prog.cellsOf 24 = 1 := by kernel_rfl
theorem cells_KI : Try.prog.cellsOf 3 = 1 := by kernel_rfl
def valI : Option Value → Int
  | some (.int _ x) => x
  | _ => 0
theorem array6 {α : Type} {cs : Array α} (h : cs.size = 6) : ∃ a b c d e f, cs = #[a, b, c, d, e, f] := by
  match cs, h with
  | ⟨[a, b, c, d, e, f]⟩, _ => exact ⟨a, b, c, d, e, f, rfl⟩
/-- An int's bounds. -/
def IB (x : Int) : Prop := -9223372036854775808 ≤ x ∧ x ≤ 9223372036854775807
theorem trod_ib {H : Type} {enc : TypeId × Value → H} {W : World} {base : Nat} {spare : Nat → Bool} {held : Bool} {fuel : Nat} {v : Value} {x : DataW H × List MemPlace}
    (h : DataW.trod enc Try.prog W base spare held fuel 3 [v] = some x) : ∃ n : Int, v = .int .i64 n ∧ IB n := by
  obtain ⟨n, hn, _, hw⟩ := DataW.trod_int Try.underlying3 h
  simp only [List.cons.injEq, and_true] at hn
  exact ⟨n, hn, int_of_wf hw⟩
set_option maxRecDepth 100000 in
theorem pair_at {H : Type} {enc : TypeId × Value → H} {W : World} {fuel : Nat} {a : Addr} {cs : List Value} {x : DataW H × List MemPlace}
    (hc : W.cells? 0 a (Try.prog.cellsOf 92) = some cs) (h : DataW.trod enc Try.prog W 0 (fun _ => true) true fuel 92 cs = some x) :
    ∃ p q : Int, W.cell? a = some (.int .i64 p) ∧ W.cell? (a.add 1) = some (.int .i64 q) := by
  rw [cells_KP] at hc
  obtain ⟨_, hl, hcell⟩ := World.cells?_some hc
  obtain ⟨y0, y1, n, _, _, h0, h1⟩ := trod_struct2 Try.underlying92 h
  match cs, hl with
  | [c0, c1], _ =>
    simp only [cells_KI] at h0 h1
    obtain ⟨p, rfl, _⟩ := trod_ib (show DataW.trod enc Try.prog W 0 (fun _ => true) true n 3 [c0] = some y0 from h0)
    obtain ⟨q, rfl, _⟩ := trod_ib (show DataW.trod enc Try.prog W 0 (fun _ => true) true n 3 [c1] = some y1 from h1)
    have e0 := hcell 0 (by omega)
    have e1 := hcell 1 (by omega)
    exact ⟨p, q, by simpa [Addr.add] using e0, by simpa using e1⟩
theorem pairs_of {H : Type} {enc : TypeId × Value → H} {W : World} {fuel : Nat} {v : Value} {x : DataW H × List MemPlace}
    (h : DataW.trod enc Try.prog W 0 (fun _ => true) true fuel 24 [v] = some x) :
    ∃ (A : Option Addr) (n c : Nat) (ps : List (Int × Int)), v = .slice A n c ∧ ps.length = n ∧ n ≤ maxLen ∧ PR W W.heap.size A ps := by
  rcases Go.Deep.open_slice Try.underlying24 h with ⟨hv, _⟩ | ⟨a, len, cap, m, n, D, Pl, hv, _, hl, hm, hmm, _, hel⟩
  · simp only [List.cons.injEq, and_true] at hv
    exact ⟨none, 0, 0, [], hv, rfl, Nat.zero_le _, fun h => absurd h (by simp)⟩
  · simp only [List.cons.injEq, and_true] at hv
    have hlm : len ≤ m := by rw [hmm]; simp; exact hl
    have key : ∀ i, i < len → ∃ p q : Int, W.cell? (a.add (i * 2)) = some (.int .i64 p) ∧ W.cell? (a.add (i * 2 + 1)) = some (.int .i64 q) := fun i hi => by
      obtain ⟨cs', hc, ht⟩ := hel i (by omega)
      obtain ⟨p, q, e0, e1⟩ := pair_at hc ht
      rw [cells_KP] at e0 e1
      rw [add_of_add] at e1
      exact ⟨p, q, e0, e1⟩
    refine ⟨some a, len, cap, (List.range len).map fun i => (valI (W.cell? (a.add (i * 2))), valI (W.cell? (a.add (i * 2 + 1)))), hv, by simp, Nat.le_trans hl hm, fun hq => ?_⟩
    have h0 : 0 < len := by simpa using hq
    obtain ⟨b, off, spot⟩ := a
    have hspot : spot = none := by
      obtain ⟨p, q, e0, _⟩ := key 0 h0
      simpa [Addr.add] using World.cell?_spot e0
    subst hspot
    have hb : b < W.heap.size := by
      obtain ⟨p, q, e0, _⟩ := key 0 h0
      have := World.block_lt_of_cell? W _ e0
      simpa [Addr.add] using this
    refine ⟨b, off, rfl, hb, fun k hk => ?_⟩
    have hk : k < len := by simpa using hk
    obtain ⟨p, q, e0, e1⟩ := key k hk
    simp only [List.getElem_map, List.getElem_range]
    rw [Go.WideShapes.add_plain] at e0 e1
    have e1 : W.cell? ⟨b, off + k * 2 + 1, none⟩ = some (.int .i64 q) := by rw [Nat.add_assoc]; exact e1
    rw [Go.WideShapes.add_plain, Go.WideShapes.add_plain, e0, show W.cell? ⟨b, off + (k * 2 + 1), none⟩ = some (.int .i64 q) by rw [← Nat.add_assoc]; exact e1]
    exact ⟨rfl, e1⟩
set_option maxRecDepth 100000 in
theorem known_of {H : Type} {enc : TypeId × Value → H} {W : World} {r : Reach} {base : Nat} {v : Value} {d : DataW H} {p : List MemPlace}
    (hv : Value.okWide Try.prog W r base 26 v) (h : DataW.Trod enc Try.prog W 0 (fun _ => true) true 26 v d p) :
    ∃ (o l m : Int) (A : Option Addr) (c : Nat) (b t : Int) (ps : List (Int × Int)), v = kv o l m A ps.length c b t ∧ IB o ∧ IB l ∧ IB m ∧ IB b ∧ IB t ∧ ps.length ≤ maxLen ∧ PR W W.heap.size A ps := by
  obtain ⟨cs, rfl, hsz⟩ := okWide_struct Try.underlying26 hv
  obtain ⟨c0, c1, c2, c3, c4, c5, rfl⟩ := array6 (hsz.trans cells_K)
  obtain ⟨fuel, hf⟩ := h
  obtain ⟨y0, y1, y2, y3, n, _, _, h0, h1, h2, h3⟩ := trod_struct4 Try.underlying26 hf
  simp only [cells_KS, cells_KPs, cells_KI] at h0 h1 h2 h3
  have h0 : DataW.trod enc Try.prog W 0 (fun _ => true) true n 23 [c0, c1, c2] = some y0 := h0
  have h1 : DataW.trod enc Try.prog W 0 (fun _ => true) true n 24 [c3] = some y1 := h1
  have h2 : DataW.trod enc Try.prog W 0 (fun _ => true) true n 3 [c4] = some y2 := h2
  have h3 : DataW.trod enc Try.prog W 0 (fun _ => true) true n 3 [c5] = some y3 := h3
  obtain ⟨z0, z1, z2, n', _, _, g0, g1, g2⟩ := Go.Deep.trod_struct3 Try.underlying23 h0
  simp only [cells_KI] at g0 g1 g2
  obtain ⟨o, rfl, ho⟩ := trod_ib (show DataW.trod enc Try.prog W 0 (fun _ => true) true n' 3 [c0] = some z0 from g0)
  obtain ⟨l, rfl, hl⟩ := trod_ib (show DataW.trod enc Try.prog W 0 (fun _ => true) true n' 3 [c1] = some z1 from g1)
  obtain ⟨m, rfl, hm⟩ := trod_ib (show DataW.trod enc Try.prog W 0 (fun _ => true) true n' 3 [c2] = some z2 from g2)
  obtain ⟨A, k, c, ps, rfl, rfl, hk, hp⟩ := pairs_of h1
  obtain ⟨b, rfl, hb⟩ := trod_ib h2
  obtain ⟨t, rfl, ht⟩ := trod_ib h3
  exact ⟨o, l, m, A, c, b, t, ps, rfl, ho, hl, hm, hb, ht, hk, hp⟩
end Go.Proofs.Ytegfcpdkehgdpaa

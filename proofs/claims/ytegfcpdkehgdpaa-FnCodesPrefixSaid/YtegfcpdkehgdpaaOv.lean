/- Rows of values between two blocks, and the exact laws' marks on them. Conditions: those that each lemma names. -/
import Derived.Test.YtegfcpdkehgdpaaCi
namespace Go.Proofs.Ytegfcpdkehgdpaa
open Go.RowKit

/-- Values that lie in a row of their own, in a block from lo on and below hi. -/
def OwnV (w : World) (lo hi : Nat) (t : TypeId) (A : Option Addr) (vs : List Value) : Prop :=
  vs = [] ∨ ∃ g cs, A = some ⟨g, 0, none⟩ ∧ lo ≤ g ∧ g < hi ∧ Blk w g t cs ∧ ∀ (j : Nat) (u : Value), vs[j]? = some u → cs[j]? = some u
theorem OwnV.grown {w w' : World} {lo hi : Nat} {t : TypeId} {A : Option Addr} {vs : List Value} {row : Option Nat} (h : OwnV w lo hi t A vs) (hg : w.grownBy w' row) (hr : ∀ g, row = some g → g < lo ∨ hi ≤ g) : OwnV w' lo hi t A vs := by
  rcases h with rfl | ⟨g, cs, rfl, h1, h2, hB, hc⟩
  · exact .inl rfl
  · exact .inr ⟨g, cs, rfl, h1, h2, hB.grown hg (fun e => by have := hr g e.symm; omega), hc⟩
theorem OwnV.below {w w' : World} {lo hi : Nat} {t : TypeId} {A : Option Addr} {vs : List Value} (h : OwnV w lo hi t A vs) (hb : Below w.heap.size w w') : OwnV w' lo hi t A vs :=
  h.grown (below_grownBy hb none) (fun _ e => by cases e)
theorem OwnV.alloc {w : World} {lo hi : Nat} {t : TypeId} {A : Option Addr} {vs : List Value} (h : OwnV w lo hi t A vs) (o : Obj) : OwnV (w.alloc o) lo hi t A vs := h.below ((Below.refl _ _).alloc (Nat.le_refl _) o)
theorem OwnV.mono {w : World} {lo lo' hi hi' : Nat} {t : TypeId} {A : Option Addr} {vs : List Value} (h : OwnV w lo hi t A vs) (h1 : lo' ≤ lo) (h2 : hi ≤ hi') : OwnV w lo' hi' t A vs := by
  rcases h with rfl | ⟨g, cs, rfl, g1, g2, hB, hc⟩
  · exact .inl rfl
  · exact .inr ⟨g, cs, rfl, by omega, by omega, hB, hc⟩
theorem OwnV.of_own {w : World} {base n c size : Nat} {t : TypeId} {A : Option Addr} {vs : List Value} (h : w.ownsRow base t size (.slice A n c) n vs) : OwnV w base w.heap.size t A vs := by
  rcases h with ⟨hl, ⟨_, h0⟩ | ⟨g, cap, cur, hv, hb, hh, hc, _, hsz, htk⟩⟩
  · subst h0; exact .inl (List.eq_nil_of_length_eq_zero (by omega))
  · injection hv with hA _ _
    have hB : Blk w g t cur := hh
    refine .inr ⟨g, cur, hA, hb, hB.lt, hB, fun j u hu => ?_⟩
    have hj := (List.getElem?_eq_some_iff.mp hu).1
    rw [← htk, List.getElem?_take, if_pos (by omega)] at hu
    simpa using hu
theorem OwnV.pairs {w : World} {base : Nat} {A : Option Addr} {ps : List (Int × Int)} (h : OwnP w base A ps) : OwnV w base w.heap.size 63 A (pvals ps) := by
  rcases h with rfl | ⟨g, cs, rfl, hb, hB, hz, hc⟩
  · exact .inl rfl
  · refine .inr ⟨g, cs, rfl, hb, hB.lt, hB, fun j u hu => ?_⟩
    have hj : j < ps.length * 2 := by have := (List.getElem?_eq_some_iff.mp hu).1; rw [pvals_length] at this; exact this
    obtain ⟨k, hk⟩ : ∃ k, j = k * 2 ∨ j = k * 2 + 1 := ⟨j / 2, by omega⟩
    rcases hk with rfl | rfl
    · rw [(pvals_get ps k (by omega)).1] at hu; rw [← hu]; exact (hc k (by omega)).1
    · rw [(pvals_get ps k (by omega)).2] at hu; rw [← hu]; exact (hc k (by omega)).2
theorem OwnV.toP {w : World} {lo hi : Nat} {A : Option Addr} {ps : List (Int × Int)} (h : OwnV w lo hi 63 A (pvals ps)) : OwnP w lo A ps := by
  rcases h with h | ⟨g, cs, rfl, h1, h2, hB, hc⟩
  · refine .inl (List.eq_nil_of_length_eq_zero ?_)
    have := congrArg List.length h
    rw [pvals_length] at this
    simp at this; omega
  · refine .inr ⟨g, cs, rfl, h1, hB, ?_, fun j hj => ?_⟩
    · rcases Nat.eq_zero_or_pos ps.length with h0 | h0
      · omega
      · have := (pvals_get ps (ps.length - 1) (by omega)).2
        have := (Array.getElem?_eq_some_iff.mp (hc _ _ this)).1
        omega
    · have := pvals_get ps j hj
      exact ⟨hc _ _ this.1, hc _ _ this.2⟩
theorem OwnV.pr {w : World} {lo hi B : Nat} {A : Option Addr} {ps : List (Int × Int)} (h : OwnV w lo hi 63 A (pvals ps)) (hB : w.heap.size ≤ B) : PR w B A ps := h.toP.pr hB
theorem OwnV.ints {w : World} {base : Nat} {A : Option Addr} {xs : List Int} (h : OwnI w base A xs) : OwnV w base w.heap.size 3 A (ivals xs) := by
  rcases h with rfl | ⟨g, cs, rfl, hb, hB, hz, hc⟩
  · exact .inl rfl
  · refine .inr ⟨g, cs, rfl, hb, hB.lt, hB, fun j u hu => ?_⟩
    have hj : j < xs.length := by have := (List.getElem?_eq_some_iff.mp hu).1; rw [ivals_length] at this; exact this
    rw [ivals_get xs j hj] at hu; rw [← hu]; exact hc j hj
theorem OwnV.toI {w : World} {lo hi : Nat} {A : Option Addr} {xs : List Int} (h : OwnV w lo hi 3 A (ivals xs)) : OwnI w lo A xs := by
  rcases h with h | ⟨g, cs, rfl, h1, h2, hB, hc⟩
  · refine .inl (List.eq_nil_of_length_eq_zero ?_)
    have := congrArg List.length h
    rw [ivals_length] at this
    simpa using this
  · refine .inr ⟨g, cs, rfl, h1, hB, ?_, fun j hj => hc _ _ (ivals_get xs j hj)⟩
    rcases Nat.eq_zero_or_pos xs.length with h0 | h0
    · omega
    · have := ivals_get xs (xs.length - 1) (by omega)
      have := (Array.getElem?_eq_some_iff.mp (hc _ _ this)).1
      omega
theorem OwnV.ir {w : World} {lo hi B : Nat} {A : Option Addr} {xs : List Int} (h : OwnV w lo hi 3 A (ivals xs)) (hB : w.heap.size ≤ B) : IR w B A xs := h.toI.ir hB
theorem OwnV.of_blk {w : World} {lo hi g : Nat} {ps : List (Int × Int)} (h : Blk w g 63 (pcells ps)) (h1 : lo ≤ g) (h2 : g < hi) : OwnV w lo hi 63 (some ⟨g, 0, none⟩) (pvals ps) :=
  .inr ⟨g, _, rfl, h1, h2, h, fun j u hu => by unfold pcells; simpa using hu⟩
/-- What a call that only stores into a row between two blocks, or into memory of its own, leaves behind. -/
def Only (w w' : World) (lo hi : Nat) (t : TypeId) : Prop := ∃ row, w.grownBy w' row ∧ ∀ g, row = some g → lo ≤ g ∧ g < hi ∧ ∃ cs, Blk w g t cs
theorem Only.same {w : World} {lo hi : Nat} {t : TypeId} : Only w w lo hi t := ⟨none, World.grownBy.refl _ _, fun _ e => by cases e⟩
theorem Only.blk {w w' : World} {lo hi g : Nat} {t t' : TypeId} {cs : Array Value} (h : Only w w' lo hi t) (hB : Blk w g t' cs) (hne : t ≠ t') : Blk w' g t' cs := by
  obtain ⟨row, hg, hr⟩ := h
  exact hB.grown hg (fun e => by obtain ⟨_, _, cs', hB'⟩ := hr g e.symm; exact Blk.ne_ hB' hB hne rfl)
theorem Only.own {w w' : World} {lo hi lo' hi' : Nat} {t t' : TypeId} {A : Option Addr} {vs : List Value} (h : Only w w' lo hi t) (hB : OwnV w lo' hi' t' A vs) (hne : hi ≤ lo' ∨ hi' ≤ lo) : OwnV w' lo' hi' t' A vs := by
  obtain ⟨row, hg, hr⟩ := h
  exact hB.grown hg (fun g e => by have := (hr g e); omega)
theorem Only.own_ne {w w' : World} {lo hi lo' hi' : Nat} {t t' : TypeId} {A : Option Addr} {vs : List Value} (h : Only w w' lo hi t) (hB : OwnV w lo' hi' t' A vs) (hne : t ≠ t') : OwnV w' lo' hi' t' A vs := by
  rcases hB with rfl | ⟨g, cs, rfl, h1, h2, hB, hc⟩
  · exact .inl rfl
  · exact .inr ⟨g, cs, rfl, h1, h2, h.blk hB hne, hc⟩
theorem Only.size {w w' : World} {lo hi : Nat} {t : TypeId} (h : Only w w' lo hi t) : w.heap.size ≤ w'.heap.size := by obtain ⟨_, hg, _⟩ := h; exact hg.size
theorem Only.below {a w w' : World} {B lo hi : Nat} {t : TypeId} (hb : Below B a w) (h : Only w w' lo hi t) (hB : B ≤ lo) (hs : B ≤ w.heap.size) : Below B a w' := by
  obtain ⟨row, hg, hr⟩ := h
  exact hb.grown hg hs (fun g e => by have := hr g e; omega)
theorem OwnV.after {w w' : World} {lo hi : Nat} {t : TypeId} {A : Option Addr} {vs us : List Value} (h : OwnV w lo hi t A vs) (hv : vs ≠ []) (h' : OwnV w' lo w'.heap.size t A us) : OwnV w' lo hi t A us := by
  rcases h with h | ⟨g, cs, rfl, h1, h2, hB, hc⟩
  · exact absurd h hv
  · rcases h' with rfl | ⟨g', cs', e, k1, k2, hB', hc'⟩
    · exact .inl rfl
    · injection e with e
      injection e with e
      subst e
      exact .inr ⟨_, cs', rfl, h1, h2, hB', hc'⟩

end Go.Proofs.Ytegfcpdkehgdpaa

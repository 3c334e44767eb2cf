/- Rows of values between two blocks, and the exact laws' marks on them. Conditions: those that each lemma names. -/
import Derived.Test.YtegfcpdkehgdpaaCi
namespace Go.Proofs.Ytegfcpdkehgdpaa
open Go.RowKit

/-- Values that lie in a row of their own, in a block from lo on and below hi. -/
def OwnV (w : World) (lo hi : Nat) (t : TypeId) (A : Option Addr) (vs : List Value) : Prop :=
  vs = [] ∨ ∃ g cs, A = some ⟨g, 0, none⟩ ∧ lo ≤ g ∧ g < hi ∧ Blk w g t cs ∧ ∀ (j : Nat) (u : Value), vs[j]? = some u → cs[j]? = some u
theorem OwnV.grown {w w' : World} {lo hi : Nat} {t : TypeId} {A : Option Addr} {vs : List Value} {row : Option Nat} (h : OwnV w lo hi t A vs) (hg : w.grownBy w' row) (hr : ∀ g, row = some g → g < lo ∨ hi ≤ g) : OwnV w' lo hi t A vs := by
  rcases h with rfl | ⟨g, cs, rfl, h1, h2, hB, hc⟩
  · exact .inl rfl
  · exact .inr ⟨g, cs, rfl, h1, h2, hB.grown hg (fun e => by have := hr g e.symm; omega), hc⟩
theorem OwnV.below {w w' : World} {lo hi : Nat} {t : TypeId} {A : Option Addr} {vs : List Value} (h : OwnV w lo hi t A vs) (hb : Below w.heap.size w w') : OwnV w' lo hi t A vs :=
  h.grown (below_grownBy hb none) (fun _ e => by cases e)
theorem OwnV.alloc {w : World} {lo hi : Nat} {t : TypeId} {A : Option Addr} {vs : List Value} (h : OwnV w lo hi t A vs) (o : Obj) : OwnV (w.alloc o) lo hi t A vs := h.below ((Below.refl _ _).alloc (Nat.le_refl _) o)
theorem OwnV.mono {w : World} {lo lo' hi hi' : Nat} {t : TypeId} {A : Option Addr} {vs : List Value} (h : OwnV w lo hi t A vs) (h1 : lo' ≤ lo) (h2 : hi ≤ hi') : OwnV w lo' hi' t A vs := by
  rcases h with rfl | ⟨g, cs, rfl, g1, g2, hB, hc⟩
  · exact .inl rfl
  · exact .inr ⟨g, cs, rfl, by omega, by omega, hB, hc⟩
theorem OwnV.of_own {w : World} {base n c size : Nat} {t : TypeId} {A : Option Addr} {vs : List Value} (h : w.ownsRow base t size (.slice A n c) n vs) : OwnV w base w.heap.size t A vs := by
  rcases h with ⟨hl, ⟨_, h0⟩ | ⟨g, cap, cur, hv, hb, hh, hc, _, hsz, htk⟩⟩
  · subst h0; exact .inl (List.eq_nil_of_length_eq_zero (by omega))
  · injection hv with hA _ _
    have hB : Blk w g t cur := hh
    refine .inr ⟨g, cur, hA, hb, hB.lt, hB, fun j u hu => ?_⟩
    have hj := (List.getElem?_eq_some_iff.mp hu).1
    rw [← htk, List.getElem?_take, if_pos (by omega)] at hu
    simpa using hu
theorem OwnV.pairs {w : World} {base : Nat} {A : Option Addr} {ps : List (Int × Int)} (h : OwnP w base A ps) : OwnV w base w.heap.size 63 A (pvals ps) := by
  rcases h with rfl | ⟨g, cs, rfl, hb, hB, hz, hc⟩
  · exact .inl rfl
  · refine .inr ⟨g, cs, rfl, hb, hB.lt, hB, fun j u hu => ?_⟩
    have hj : j < ps.length * 2 := by have := (List.getElem?_eq_some_iff.mp hu).1; rw [pvals_length] at this; exact this
    obtain ⟨k, hk⟩ : ∃ k, j = k * 2 ∨ j = k * 2 + 1 := ⟨j / 2, by omega⟩
    rcases hk with rfl | rfl
    · rw [(pvals_get ps k (by omega)).1] at hu; rw [← hu]; exact (hc k (by omega)).1
    · rw [(pvals_get ps k (by omega)).2] at hu; rw [← hu]; exact (hc k (by omega)).2
theorem OwnV.toP {w : World} {lo hi : Nat} {A : Option Addr} {ps : List (Int × Int)} (h : OwnV w lo hi 63 A (pvals ps)) : OwnP w lo A ps := by
  rcases h with h | ⟨g, cs, rfl, h1, h2, hB, hc⟩
  · refine .inl (List.eq_nil_of_length_eq_zero ?_)
    have := congrArg List.length h
    rw [pvals_length] at this
    simp at this; omega
  · refine .inr ⟨g, cs, rfl, h1, hB, ?_, fun j hj => ?_⟩
    · rcases Nat.eq_zero_or_pos ps.length with h0 | h0
      · omega
      · have := (pvals_get ps (ps.length - 1) (by omega)).2
        have := (Array.getElem?_eq_some_iff.mp (hc _ _ this)).1
        omega
    · have := pvals_get ps j hj
      exact ⟨hc _ _ this.1, hc _ _ this.2⟩
theorem OwnV.pr {w : World} {lo hi B : Nat} {A : Option Addr} {ps : List (Int × Int)} (h : OwnV w lo hi 63 A (pvals ps)) (hB : w.heap.size ≤ B) : PR w B A ps := h.toP.pr hB
theorem OwnV.ints {w : World} {base : Nat} {A : Option Addr} {xs : List Int} (h : OwnI w base A xs) : OwnV w base w.heap.size 3 A (ivals xs) := by
  rcases h with rfl | ⟨g, cs, rfl, hb, hB, hz, hc⟩
  · exact .inl rfl
  · refine .inr ⟨g, cs, rfl, hb, hB.lt, hB, fun j u hu => ?_⟩
    have hj : j < xs.length := by have := (List.getElem?_eq_some_iff.mp hu).1; rw [ivals_length] at this; exact this
    rw [ivals_get xs j hj] at hu; rw [← hu]; exact hc j hj
theorem OwnV.toI {w : World} {lo hi : Nat} {A : Option Addr} {xs : List Int} (h : OwnV w lo hi 3 A (ivals xs)) : OwnI w lo A xs := by
  rcases h with h | ⟨g, cs, rfl, h1, h2, hB, hc⟩
  · refine .inl (List.eq_nil_of_length_eq_zero ?_)
    have := congrArg List.length h
    rw [ivals_length] at this
    simpa using this
  · refine .inr ⟨g, cs, rfl, h1, hB, ?_, fun j hj => hc _ _ (ivals_get xs j hj)⟩
    rcases Nat.eq_zero_or_pos xs.length with h0 | h0
    · omega
    · have := ivals_get xs (xs.length - 1) (by omega)
      have := (Array.getElem?_eq_some_iff.mp (hc _ _ this)).1
      omega
theorem OwnV.ir {w : World} {lo hi B : Nat} {A : Option Addr} {xs : List Int} (h : OwnV w lo hi 3 A (ivals xs)) (hB : w.heap.size ≤ B) : IR w B A xs := h.toI.ir hB
theorem OwnV.of_blk {w : World} {lo hi g : Nat} {ps : List (Int × Int)} (h : Blk w g 63 (pcells ps)) (h1 : lo ≤ g) (h2 : g < hi) : OwnV w lo hi 63 (some ⟨g, 0, none⟩) (pvals ps) :=
  .inr ⟨g, _, rfl, h1, h2, h, fun j u hu => by unfold pcells; simpa using hu⟩
/-- What a call that only stores into a row between two blocks, or into memory of its own, leaves behind. -/
def Only (w w' : World) (lo hi : Nat) (t : TypeId) : Prop := ∃ row, w.grownBy w' row ∧ ∀ g, row = some g → lo ≤ g ∧ g < hi ∧ ∃ cs, Blk w g t cs
theorem Only.same {w : World} {lo hi : Nat} {t : TypeId} : Only w w lo hi t := ⟨none, World.grownBy.refl _ _, fun _ e => by cases e⟩
theorem Only.of_below {w w' : World} {lo hi : Nat} {t : TypeId} (h : Below w.heap.size w w') : Only w w' lo hi t := ⟨none, below_grownBy h none, fun _ e => by cases e⟩
theorem Only.blk {w w' : World} {lo hi g : Nat} {t t' : TypeId} {cs : Array Value} (h : Only w w' lo hi t) (hB : Blk w g t' cs) (hne : t ≠ t') : Blk w' g t' cs := by
  obtain ⟨row, hg, hr⟩ := h
  exact hB.grown hg (fun e => by obtain ⟨_, _, cs', hB'⟩ := hr g e.symm; exact Blk.ne_ hB' hB hne rfl)
theorem Only.own {w w' : World} {lo hi lo' hi' : Nat} {t t' : TypeId} {A : Option Addr} {vs : List Value} (h : Only w w' lo hi t) (hB : OwnV w lo' hi' t' A vs) (hne : hi ≤ lo' ∨ hi' ≤ lo) : OwnV w' lo' hi' t' A vs := by
  obtain ⟨row, hg, hr⟩ := h
  exact hB.grown hg (fun g e => by have := (hr g e); omega)
theorem Only.own_ne {w w' : World} {lo hi lo' hi' : Nat} {t t' : TypeId} {A : Option Addr} {vs : List Value} (h : Only w w' lo hi t) (hB : OwnV w lo' hi' t' A vs) (hne : t ≠ t') : OwnV w' lo' hi' t' A vs := by
  rcases hB with rfl | ⟨g, cs, rfl, h1, h2, hB, hc⟩
  · exact .inl rfl
  · exact .inr ⟨g, cs, rfl, h1, h2, h.blk hB hne, hc⟩
theorem Only.size {w w' : World} {lo hi : Nat} {t : TypeId} (h : Only w w' lo hi t) : w.heap.size ≤ w'.heap.size := by obtain ⟨_, hg, _⟩ := h; exact hg.size
theorem Only.below {a w w' : World} {B lo hi : Nat} {t : TypeId} (hb : Below B a w) (h : Only w w' lo hi t) (hB : B ≤ lo) (hs : B ≤ w.heap.size) : Below B a w' := by
  obtain ⟨row, hg, hr⟩ := h
  exact hb.grown hg hs (fun g e => by have := hr g e; omega)
theorem Only.of_row {w w' : World} {lo hi : Nat} {t : TypeId} {A : Option Addr} {vs : List Value} (h : OwnV w lo hi t A vs) (hv : vs ≠ []) (hg : w.grownBy w' (blkOf A)) : Only w w' lo hi t := by
  rcases h with h | ⟨g, cs, rfl, h1, h2, hB, hc⟩
  · exact absurd h hv
  · exact ⟨_, hg, fun g' e => by simp [blkOf] at e; subst e; exact ⟨h1, h2, cs, hB⟩⟩
theorem OwnV.after {w w' : World} {lo hi : Nat} {t : TypeId} {A : Option Addr} {vs us : List Value} (h : OwnV w lo hi t A vs) (hv : vs ≠ []) (h' : OwnV w' lo w'.heap.size t A us) : OwnV w' lo hi t A us := by
  rcases h with h | ⟨g, cs, rfl, h1, h2, hB, hc⟩
  · exact absurd h hv
  · rcases h' with rfl | ⟨g', cs', e, k1, k2, hB', hc'⟩
    · exact .inl rfl
    · injection e with e
      injection e with e
      subst e
      exact .inr ⟨_, cs', rfl, h1, h2, hB', hc'⟩

set_option maxRecDepth 100000 in
set_option maxHeartbeats 2000000 in
theorem mark_none (o l m : Int) (A : Option Addr) (c : Nat) (b t : Int) (w : World) :
    Calls Try.prog 19 #[kv o l m A 0 c b t, .int .i64 1] w fun e w' => e = .returned (.int .i64 1) ∧ Below w.heap.size w w' := by
  have B0 : Below w.heap.size w (w.alloc (.cells #[.int .i64 o, .int .i64 l, .int .i64 m, .slice A 0 c, .int .i64 b, .int .i64 t] 31)) := (Below.refl _ _).alloc (Nat.le_refl _) _
  have CM : Hid (∀ wx, Calls Try.prog 68 #[.slice A 0 c, .int .i64 1] wx fun e w' => e = .returned (.int .i64 1) ∧ wx = w') := by
    refine hide fun wx => ?_
    go_enter Try.func68, Try.ntmps68
    go_wp2_with fail
    go_loop [1, 5] (fun kk i => kk = .int .i64 1 ∧ i = .int .i64 0) (fun _ _ => 0)
    case atStart => exact ⟨rfl, rfl⟩
    case round =>
      obtain ⟨rfl, rfl⟩ := hrel
      go_wp2_with fail
      go_ret
      exact ⟨rfl, rfl⟩
  go_enter Try.func19, Try.ntmps19
  go_wp2_with fail
  refine ((unhide CM) _).mono ?_; rintro e w1 ⟨rfl, rfl⟩
  go_wp2_with fail
  go_ret
  exact ⟨rfl, B0⟩
theorem mark_known (o l m : Int) (A : Option Addr) (c : Nat) (b t : Int) (ps : List (Int × Int)) (lo hi : Nat) (w : World) (hr : OwnV w lo hi 63 A (pvals ps)) (hz : ps.length ≤ 1048577) :
    Calls Try.prog 19 #[kv o l m A ps.length c b t, .int .i64 1] w fun e w' => e = .returned (.int .i64 (1 + 2 * (ps.length : Int))) ∧ OwnV w' lo hi 63 A (pvals (pmarks ps.length)) ∧ Only w w' lo hi 63 := by
  rcases ps with _ | ⟨p, ps⟩
  · exact (mark_none o l m A c b t w).mono fun _ _ ⟨h1, h2⟩ => ⟨h1, .inl rfl, .of_below h2⟩
  · have hne : pvals (p :: ps) ≠ [] := by rw [pvals_cons]; simp
    exact (laws_markKnown o l m A c b t (p :: ps) lo w hr.toP hz).mono fun _ _ ⟨h1, h2, h3⟩ => ⟨h1, hr.after hne (.pairs h2), .of_row hr hne h3⟩
theorem held_known (o l m : Int) (A : Option Addr) (n c : Nat) (b t : Int) (lo hi : Nat) (w : World) (hr : OwnV w lo hi 63 A (pvals (pmarks n))) (hz : n ≤ 1048577) :
    Calls Try.prog 20 #[kv o l m A n c b t, .int .i64 1] w fun e w' => e = .returned (.int .i64 (1 + 2 * (n : Int))) ∧ Below w.heap.size w w' :=
  laws_heldKnown o l m A n c b t w (hr.pr (Nat.le_refl _)) hz
set_option maxRecDepth 100000 in
set_option maxHeartbeats 2000000 in
theorem mark_noneI (A : Option Addr) (c : Nat) (x : Int) (w : World) :
    Calls Try.prog 29 #[.slice A 0 c, .int .i64 x] w fun e w' => e = .returned (.int .i64 x) ∧ w = w' := by
  go_enter Try.func29, Try.ntmps29
  go_wp2_with fail
  go_loop [1, 5] (fun kk i => kk = .int .i64 x ∧ i = .int .i64 0) (fun _ _ => 0)
  case atStart => exact ⟨rfl, rfl⟩
  case round =>
    obtain ⟨rfl, rfl⟩ := hrel
    go_wp2_with fail
    go_ret
    exact ⟨rfl, rfl⟩
theorem mark_ints (A : Option Addr) (c : Nat) (xs : List Int) (k0 lo hi : Nat) (w : World) (hr : OwnV w lo hi 3 A (ivals xs)) (hz : xs.length ≤ 1048577) (hk0 : k0 ≤ 4000000) :
    Calls Try.prog 29 #[.slice A xs.length c, .int .i64 (1 + (k0 : Int))] w fun e w' => e = .returned (.int .i64 (1 + (k0 : Int) + (xs.length : Int))) ∧ (k0 = 0 → OwnV w' lo hi 3 A (ivals (imarks xs.length))) ∧ Only w w' lo hi 3 := by
  rcases xs with _ | ⟨x, xs⟩
  · exact (mark_noneI A c _ w).mono fun _ _ ⟨h1, h2⟩ => ⟨h1.trans (ret_int (by simp)), fun _ => .inl rfl, by rw [← h2]; exact .same⟩
  · have hne : ivals (x :: xs) ≠ [] := by simp [ivals]
    exact (laws_markIntS A c (x :: xs) k0 lo w hr.toI hz hk0).mono fun _ _ ⟨h1, h2, h3⟩ => ⟨h1, fun h0 => hr.after hne (.ints (h2 h0)), .of_row hr hne h3⟩
theorem held_ints (A : Option Addr) (n c lo hi : Nat) (w : World) (hr : OwnV w lo hi 3 A (ivals (imarks n))) (hz : n ≤ 1048577) :
    Calls Try.prog 30 #[.slice A n c, .int .i64 1] w fun e w' => e = .returned (.int .i64 (1 + (n : Int))) ∧ w = w' :=
  laws_heldIntS A n c w (hr.ir (Nat.le_refl _)) hz
end Go.Proofs.Ytegfcpdkehgdpaa

/- The walks of copies of what is known. Conditions: the pairs' cells lie below the call's own memory. -/
import Derived.Test.YtegfcpdkehgdpaaW3
namespace Go.Proofs.Ytegfcpdkehgdpaa
open Go.RowKit

theorem own_shapeN {w : World} {base n size : Nat} {e : TypeId} {v : Value} {xs : List Value} (h : w.ownsRow base e size v n xs) : ∃ A c, v = .slice A n c := by
  rcases h.2 with ⟨rfl, rfl⟩ | ⟨g, cap, cur, hv, _⟩
  · exact ⟨none, 0, rfl⟩
  · exact ⟨_, cap, hv⟩
theorem PR.reads {w : World} {B : Nat} {A : Option Addr} {ps : List (Int × Int)} (h : PR w B A ps) : Reads w B 2 A ps.length (pvals ps) :=
  ⟨pvals_length ps, fun h0 => by
    obtain ⟨g, off, rfl, hg, hc⟩ := h h0
    refine ⟨_, rfl, hg, fun j u hu => ?_⟩
    have hj : j < ps.length * 2 := by have := (List.getElem?_eq_some_iff.mp hu).1; rw [pvals_length] at this; exact this
    have ha : (⟨g, off, none⟩ : Addr).add j = ⟨g, off + j, none⟩ := by unfold Addr.add; split <;> simp_all
    rw [ha]
    obtain ⟨k, hk⟩ : ∃ k, j = k * 2 ∨ j = k * 2 + 1 := ⟨j / 2, by omega⟩
    rcases hk with rfl | rfl
    · have hk : k < ps.length := by omega
      rw [(pvals_get ps k hk).1] at hu
      rw [← Option.some.inj hu]; exact (hc k hk).1
    · have hk : k < ps.length := by omega
      rw [(pvals_get ps k hk).2] at hu
      rw [← Option.some.inj hu]; exact (hc k hk).2⟩
theorem pvals_one (ps : List (Int × Int)) : ∀ u ∈ pvals ps, u.oneCell' = true := by
  intro u hu
  simp only [pvals, List.mem_flatMap] at hu
  obtain ⟨p, _, hp⟩ := hu
  simp only [List.mem_cons, List.not_mem_nil, or_false] at hp
  rcases hp with rfl | rfl <;> rfl
theorem only6 (w : World) (g : Nat) (x0 x1 x2 x3 x4 x5 : Value) : w.grownBy ((((((w.setCell ⟨g, 0, none⟩ x0).setCell ⟨g, 1, none⟩ x1).setCell ⟨g, 2, none⟩ x2).setCell ⟨g, 3, none⟩ x3).setCell ⟨g, 4, none⟩ x4).setCell ⟨g, 5, none⟩ x5) (some g) :=
  only_setCell (only_setCell (only_setCell (only_setCell (only_setCell (only_setCell (World.grownBy.refl w _) (p := ⟨g, 0, none⟩) (.inl rfl) _) (p := ⟨g, 1, none⟩) (.inl rfl) _) (p := ⟨g, 2, none⟩) (.inl rfl) _) (p := ⟨g, 3, none⟩) (.inl rfl) _) (p := ⟨g, 4, none⟩) (.inl rfl) _) (p := ⟨g, 5, none⟩) (.inl rfl) _
theorem own_cut {w : World} {base n size c k : Nat} {e : TypeId} {A : Option Addr} {xs : List Value} (h : w.ownsRow base e size (.slice A n c) n xs) (hk : k ≤ n) : w.ownsRow base e size (.slice A k c) k (xs.take (k * size)) := by
  rcases h with ⟨hl, ⟨hv, rfl⟩ | ⟨g, cap, cur, hv, hb, hh, hc, hm, hsz, htk⟩⟩
  · obtain rfl : k = 0 := by omega
    exact ⟨by simp, .inl ⟨hv, rfl⟩⟩
  · injection hv with hA _ hcc
    subst hA; subst hcc
    have hkn : k * size ≤ n * size := Nat.mul_le_mul_right _ hk
    refine ⟨by rw [List.length_take, hl]; omega, .inr ⟨g, c, cur, rfl, hb, hh, by omega, hm, hsz, ?_⟩⟩
    rw [← htk, List.take_take, Nat.min_eq_left hkn]
theorem pvals_take (ps : List (Int × Int)) : ∀ (k : Nat), (pvals ps).take (k * 2) = pvals (ps.take k) := by
  induction ps with
  | nil => intro k; simp [pvals]
  | cons p ps ih =>
    intro k
    rcases k with _ | k
    · simp [pvals]
    · rw [List.take_succ_cons, pvals_cons, pvals_cons, ← ih k, Nat.succ_mul]; rfl

set_option maxRecDepth 100000 in
set_option maxHeartbeats 4000000 in
theorem impl_copyKnown (o l m : Int) (A : Option Addr) (c : Nat) (b t : Int) (ps : List (Int × Int)) (w : World) (hr : PR w w.heap.size A ps) (hz : ps.length ≤ 1048577) :
    Calls Try.prog 64 #[kv o l m A ps.length c b t] w fun e w' => ∃ A' c', e = .returned (kv o l m A' (ps).length c' b t) ∧ w'.ownsRow (w.heap.size + 2) 63 2 (.slice A' (ps).length c') (ps).length (pvals (ps)) ∧ Below w.heap.size w w' := by
  obtain ⟨i0, hi0, hz0, hz1, hz2⟩ := info_parts try_infoP
  have B0 : Below w.heap.size w ((w.alloc (.cells #[.int .i64 o, .int .i64 l, .int .i64 m, .slice A ps.length c, .int .i64 b, .int .i64 t] 31)).alloc (.cells #[.int .i64 0, .int .i64 0, .int .i64 0, .slice none 0 0, .int .i64 0, .int .i64 0] 31)) := ((Below.refl _ _).alloc (Nat.le_refl _) _).alloc (by simp) _
  have K0 := (Blk.new w 31 #[.int .i64 o, .int .i64 l, .int .i64 m, .slice A ps.length c, .int .i64 b, .int .i64 t]).alloc (.cells #[.int .i64 0, .int .i64 0, .int .i64 0, .slice none 0 0, .int .i64 0, .int .i64 0] 31)
  have R0 := blk_new2 w (.cells #[.int .i64 o, .int .i64 l, .int .i64 m, .slice A ps.length c, .int .i64 b, .int .i64 t] 31) 31 #[.int .i64 0, .int .i64 0, .int .i64 0, .slice none 0 0, .int .i64 0, .int .i64 0]
  have S0 : ((w.alloc (.cells #[.int .i64 o, .int .i64 l, .int .i64 m, .slice A ps.length c, .int .i64 b, .int .i64 t] 31)).alloc (.cells #[.int .i64 0, .int .i64 0, .int .i64 0, .slice none 0 0, .int .i64 0, .int .i64 0] 31)).heap.size = w.heap.size + 2 := by simp
  have P0 := (hr.keep B0.size B0).reads
  have a0 : ((w.alloc (.cells #[.int .i64 o, .int .i64 l, .int .i64 m, .slice A ps.length c, .int .i64 b, .int .i64 t] 31)).alloc (.cells #[.int .i64 0, .int .i64 0, .int .i64 0, .slice none 0 0, .int .i64 0, .int .i64 0] 31)).cell? ⟨w.heap.size, 0, none⟩ = some (.int .i64 o) := K0.cell 0
  have a1 : ((w.alloc (.cells #[.int .i64 o, .int .i64 l, .int .i64 m, .slice A ps.length c, .int .i64 b, .int .i64 t] 31)).alloc (.cells #[.int .i64 0, .int .i64 0, .int .i64 0, .slice none 0 0, .int .i64 0, .int .i64 0] 31)).cell? ⟨w.heap.size, 1, none⟩ = some (.int .i64 l) := K0.cell 1
  have a2 : ((w.alloc (.cells #[.int .i64 o, .int .i64 l, .int .i64 m, .slice A ps.length c, .int .i64 b, .int .i64 t] 31)).alloc (.cells #[.int .i64 0, .int .i64 0, .int .i64 0, .slice none 0 0, .int .i64 0, .int .i64 0] 31)).cell? ⟨w.heap.size, 2, none⟩ = some (.int .i64 m) := K0.cell 2
  have a3 : ((w.alloc (.cells #[.int .i64 o, .int .i64 l, .int .i64 m, .slice A ps.length c, .int .i64 b, .int .i64 t] 31)).alloc (.cells #[.int .i64 0, .int .i64 0, .int .i64 0, .slice none 0 0, .int .i64 0, .int .i64 0] 31)).cell? ⟨w.heap.size, 3, none⟩ = some (.slice A ps.length c) := K0.cell 3
  have a4 : ((w.alloc (.cells #[.int .i64 o, .int .i64 l, .int .i64 m, .slice A ps.length c, .int .i64 b, .int .i64 t] 31)).alloc (.cells #[.int .i64 0, .int .i64 0, .int .i64 0, .slice none 0 0, .int .i64 0, .int .i64 0] 31)).cell? ⟨w.heap.size, 4, none⟩ = some (.int .i64 b) := K0.cell 4
  have a5 : ((w.alloc (.cells #[.int .i64 o, .int .i64 l, .int .i64 m, .slice A ps.length c, .int .i64 b, .int .i64 t] 31)).alloc (.cells #[.int .i64 0, .int .i64 0, .int .i64 0, .slice none 0 0, .int .i64 0, .int .i64 0] 31)).cell? ⟨w.heap.size, 5, none⟩ = some (.int .i64 t) := K0.cell 5
  go_enter Try.func64, Try.ntmps64
  go_wp2_with (at_builtin; refine wpList_append_any _ rfl _ _ _ rfl (w.heap.size + 2) 63 i0 (.agg #[.int .i64 0, .int .i64 0]) 2 16 Try.underlying29 hi0 hz0 hz1 hz2 (by rfl) (by decide) (.slice none 0 0) 0 [] rfl (World.ownsRow_nil _ _ _ _) _ _ ps.length c (pvals ps) rfl P0 (pvals_one ps) (by simp only [maxLen]; omega) (by omega) (by simp) ?_; intro v' w9 hown hgrow _; have B9 := B0.grown hgrow B0.size (by simp [Value.ownBlock]); have K9 := K0.grown hgrow (by simp [Value.ownBlock]); have R9 := R0.grown hgrow (by simp [Value.ownBlock]); rw [Nat.zero_add, List.nil_append] at hown; obtain ⟨A', c', rfl⟩ := own_shapeN hown; have hl9 := hown.lt; clear hgrow K0 R0 P0 S0 B0 a0 a1 a2 a3 a4 a5; have a0 : w9.cell? ⟨w.heap.size, 0, none⟩ = some (.int .i64 o) := K9.cell 0; have a1 : w9.cell? ⟨w.heap.size, 1, none⟩ = some (.int .i64 l) := K9.cell 1; have a2 : w9.cell? ⟨w.heap.size, 2, none⟩ = some (.int .i64 m) := K9.cell 2; have a3 : w9.cell? ⟨w.heap.size, 3, none⟩ = some (.slice A ps.length c) := K9.cell 3; have a4 : w9.cell? ⟨w.heap.size, 4, none⟩ = some (.int .i64 b) := K9.cell 4; have a5 : w9.cell? ⟨w.heap.size, 5, none⟩ = some (.int .i64 t) := K9.cell 5; have c0 : w9.cell? ⟨(w.heap.size + 1), 0, none⟩ = some (.int .i64 0) := R9.cell 0; have c1 : w9.cell? ⟨(w.heap.size + 1), 1, none⟩ = some (.int .i64 0) := R9.cell 1; have c2 : w9.cell? ⟨(w.heap.size + 1), 2, none⟩ = some (.int .i64 0) := R9.cell 2; have c3 : w9.cell? ⟨(w.heap.size + 1), 3, none⟩ = some (.slice none 0 0) := R9.cell 3; have c4 : w9.cell? ⟨(w.heap.size + 1), 4, none⟩ = some (.int .i64 0) := R9.cell 4; have c5 : w9.cell? ⟨(w.heap.size + 1), 5, none⟩ = some (.int .i64 0) := R9.cell 5; have fc0 := R9.frozen 0; have fc1 := R9.frozen 1; have fc2 := R9.frozen 2; have fc3 := R9.frozen 3; have fc4 := R9.frozen 4; have fc5 := R9.frozen 5; have fa3 := K9.frozen 3; have KW := K9.set_ 3 (.slice A' ps.length c'); have RW := R9.far (p := ⟨w.heap.size, 3, none⟩) (by simp) (.slice A' ps.length c'); have BW : Below w.heap.size w (w9.setCell ⟨w.heap.size, 3, none⟩ (.slice A' ps.length c')) := belowSet B9 (Nat.le_refl _) _; have OW := hown.kept (only_setCell (World.grownBy.refl w9 (some w.heap.size)) (p := ⟨w.heap.size, 3, none⟩) (.inl rfl) (.slice A' ps.length c')) (.inr fun h => by have := (hl9 _ h).1; omega))
  have q := blk6_set RW (.int .i64 o) (.int .i64 l) (.int .i64 m) (.slice A' ps.length c') (.int .i64 b) (.int .i64 t)
  have q0 := q.cell 0
  have q1 := q.cell 1
  have q2 := q.cell 2
  have q3 := q.cell 3
  have q4 := q.cell 4
  have q5 := q.cell 5
  exact bodyPost_ret (v := kv o l m A' ps.length c' b t) (by simp [results, Try.results64, go_sem, q0, q1, q2, q3, q4, q5]) rfl ⟨A', c', rfl, OW.kept (only6 _ _ _ _ _ _ _ _) (.inr fun h => by have := (hl9 _ h).1; omega), belowSet (belowSet (belowSet (belowSet (belowSet (belowSet BW (by omega) _) (by omega) _) (by omega) _) (by omega) _) (by omega) _) (by omega) _⟩

end Go.Proofs.Ytegfcpdkehgdpaa

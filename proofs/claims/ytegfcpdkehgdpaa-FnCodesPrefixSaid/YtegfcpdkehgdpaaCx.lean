/- Plain facts on the loops over codes: no program. Conditions: those that each lemma names. -/
import Derived.Test.YtegfcpdkehgdpaaOv
import Derived.Test.YtegfcpdkehgdpaaCw
namespace Go.Proofs.Ytegfcpdkehgdpaa
namespace Sx
section
variable {l m b t x : Int} {xs : List Int} {ps : List (Int × Int)} {ws : List Int} {ds : List UInt8} {k : Nat} {R : Option (List Int × List UInt8)}
theorem acc_go (H : R = wkAcc ws ds (wk l m b (xs.drop k) ps t ds.length)) (hk : k < xs.length) (hx : x = xs[k]) (h : x ≠ two l + 1) (hg : goB l m ps.length t x = true) (hd : ds.length + (wdOf l ps t x).length ≤ 2000) :
    R = wkAcc (ws ++ [widthI l m ps.length t]) (ds ++ wdOf l ps t x) (wk l m b (xs.drop (k + 1)) (stepP l m ps b t x) (advT l x) (ds ++ wdOf l ps t x).length) := by
  rw [H, drop_cons xs k hk, ← hx, wk_go h hg hd, acc_map, List.length_append]
theorem acc_bad (H : R = wkAcc ws ds (wk l m b (xs.drop k) ps t ds.length)) (hk : k < xs.length) (hx : x = xs[k]) (h : x ≠ two l + 1) (hg : goB l m ps.length t x = false) : R = none := by
  rw [H, drop_cons xs k hk, ← hx, wk_bad h hg]; rfl
theorem acc_long (H : R = wkAcc ws ds (wk l m b (xs.drop k) ps t ds.length)) (hk : k < xs.length) (hx : x = xs[k]) (h : x ≠ two l + 1) (hd : 2000 < ds.length + (wdOf l ps t x).length) : R = none := by
  rw [H, drop_cons xs k hk, ← hx, wk_long h hd]; rfl
theorem acc_more (H : R = wkAcc ws ds (wk l m b (xs.drop k) ps t ds.length)) (hk : k + 1 < xs.length) (hx : x = xs[k]) (h : x = two l + 1) : R = none := by
  rw [H, drop_cons xs k (by omega), ← hx, wk_more h (fun e => by have := List.drop_eq_nil_iff.1 e; omega)]; rfl
theorem acc_last (H : R = wkAcc ws ds (wk l m b (xs.drop k) ps t ds.length)) (hk : k + 1 = xs.length) (hx : x = xs[k]'(by omega)) (h : x = two l + 1) :
    R = some (ws ++ [widthI l m ps.length t], ds) ∧ R = wkAcc (ws ++ [widthI l m ps.length t]) ds (wk l m b (xs.drop (k + 1)) ps t ds.length) := by
  have h1 : R = some (ws ++ [widthI l m ps.length t], ds) := by
    rw [H, drop_cons xs k (by omega), ← hx, List.drop_of_length_le (by omega), wk_last h]; simp [wkAcc]
  refine ⟨h1, ?_⟩
  rw [h1, List.drop_of_length_le (by omega), wk_nil]; simp [wkAcc]
theorem acc_end (H : R = wkAcc ws ds (wk l m b (xs.drop k) ps t ds.length)) (hk : xs.length ≤ k) : R = some (ws, ds) := by
  rw [H, List.drop_of_length_le hk, wk_nil]; simp [wkAcc]
end
/-- Is a code one that can follow, by its bounds? -/
theorem fol_go {l m t x : Int} {n : Nat} (h : folB l m n t x = true) (hx : x ≠ two l + 1) : goB l m n t x = true := by
  by_cases hc : x = two l
  · simp [goB, hc]
  · rw [goB, can_mk, h]; simp [hc, hx]
theorem fol_no {l m t x : Int} {n : Nat} (h : folB l m n t x = false) : x ≠ two l + 1 ∧ goB l m n t x = false := by
  have hb := great_bd l m n t
  have := two_pos l
  have h' := h
  simp only [folB, Bool.and_eq_false_iff, decide_eq_false_iff_not] at h'
  have h1 : x ≠ two l + 1 := by omega
  have h2 : x ≠ two l := by omega
  refine ⟨h1, ?_⟩
  rw [goB, can_mk, h]; simp [h2]
def cwB (o l m b t : Int) (ps : List (Int × Int)) (xs : List Int) : Bool := (cwR o l m b t ps xs).isSome
def cwW (o l m b t : Int) (ps : List (Int × Int)) (xs : List Int) : List Int := ((cwR o l m b t ps xs).getD ([], [])).1
def cwD (o l m b t : Int) (ps : List (Int × Int)) (xs : List Int) : List UInt8 := ((cwR o l m b t ps xs).getD ([], [])).2
theorem cw_none {o l m b t : Int} {ps : List (Int × Int)} {xs : List Int} (h : cwR o l m b t ps xs = none) : cwB o l m b t ps xs = false ∧ cwW o l m b t ps xs = [] ∧ cwD o l m b t ps xs = [] := by
  simp [cwB, cwW, cwD, h]
theorem cw_some {o l m b t : Int} {ps : List (Int × Int)} {xs : List Int} {ws : List Int} {ds : List UInt8} (h : cwR o l m b t ps xs = some (ws, ds)) : cwB o l m b t ps xs = true ∧ cwW o l m b t ps xs = ws ∧ cwD o l m b t ps xs = ds := by
  simp [cwB, cwW, cwD, h]
theorem cwR_ok {o l m b t : Int} {ps : List (Int × Int)} {xs : List Int} (hk : kOK o l m ps b t = true) (hx : xs.length ≤ 3100) : cwR o l m b t ps xs = wkAcc [] [] (wk l m b (xs.drop 0) ps t ([] : List UInt8).length) := by
  rw [acc_nil, cwR, if_pos ⟨hk, hx⟩]; rfl
theorem cwR_bad {o l m b t : Int} {ps : List (Int × Int)} {xs : List Int} (h : kOK o l m ps b t = false ∨ 3100 < xs.length) : cwR o l m b t ps xs = none := by
  rw [cwR, if_neg]
  rintro ⟨h1, h2⟩
  rcases h with h | h
  · rw [h] at h1; cases h1
  · omega
end Sx
/-- Two rows of different kinds lie in different blocks. -/
theorem own_apart {w : World} {b1 b2 s1 s2 n1 n2 : Nat} {t1 t2 : TypeId} {v1 v2 : Value} {x1 x2 : List Value} (h1 : w.ownsRow b1 t1 s1 v1 n1 x1) (h2 : w.ownsRow b2 t2 s2 v2 n2 x2) (hne : t1 ≠ t2) : v1.ownBlock = none ∨ v1.ownBlock ≠ v2.ownBlock := by
  rcases h1.2 with ⟨rfl, _⟩ | ⟨g1, c1, cur1, rfl, _, hh1, _⟩
  · exact .inl rfl
  · refine .inr ?_
    rcases h2.2 with ⟨rfl, _⟩ | ⟨g2, c2, cur2, rfl, _, hh2, _⟩
    · simp [Value.ownBlock]
    · intro e
      simp [Value.ownBlock] at e
      subst e
      exact Blk.ne_ (t := t1) (t' := t2) hh1 hh2 hne rfl
theorem own_other {w w' : World} {b1 b2 s1 s2 n1 n2 : Nat} {t1 t2 : TypeId} {v1 v2 : Value} {x1 x2 : List Value} (h1 : w.ownsRow b1 t1 s1 v1 n1 x1) (h2 : w.ownsRow b2 t2 s2 v2 n2 x2) (hg : w.grownBy w' v2.ownBlock) (hne : t1 ≠ t2) : w'.ownsRow b1 t1 s1 v1 n1 x1 := h1.kept hg (own_apart h1 h2 hne)
theorem blk_other {w w' : World} {b2 s2 n2 g : Nat} {t1 t2 : TypeId} {v2 : Value} {x2 : List Value} {cs : Array Value} (h1 : Blk w g t1 cs) (h2 : w.ownsRow b2 t2 s2 v2 n2 x2) (hg : w.grownBy w' v2.ownBlock) (hne : t2 ≠ t1) : Blk w' g t1 cs := h1.grown hg (own_blk_ne h2 h1 hne).symm
theorem own_ints {w : World} {base n c : Nat} {A : Option Addr} {ws : List Int} {v : Int} (h : w.ownsRow base 3 1 (.slice A n c) n (ivals ws ++ [.int .i64 v])) : w.ownsRow base 3 1 (.slice A n c) n (ivals (ws ++ [v])) := by
  rw [ivals_append]; exact h
end Go.Proofs.Ytegfcpdkehgdpaa

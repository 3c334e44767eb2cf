/- Plain facts on one round of the law on heads of codes: no program. Conditions: those that each lemma names. -/
import Derived.Test.YtegfcpdkehgdpaaCpp
import Derived.Test.YtegfcpdkehgdpaaCw3
import Derived.Test.YtegfcpdkehgdpaaSo
namespace Go.Proofs.Ytegfcpdkehgdpaa
namespace Sx
theorem wide_yes {o l m b t : Int} {ps : List (Int × Int)} (h : kOK o l m ps b t = true) : widthS o l m ps b t = widthI l m ps.length t := if_pos h
/-- The first i codes are valid, with the data so far. -/
theorem pre_head {o l m b t : Int} {ps : List (Int × Int)} {xs : List Int} {i : Nat} {P : List (Int × Int)} {T : Int} {wsi : List Int} {dsi : List UInt8} (h : Pre o l m b t ps xs i P T wsi dsi) (hk : kOK o l m ps b t = true) (hx : xs.length ≤ 3100) : cwB o l m b t ps (xs.take i) = true ∧ cwD o l m b t ps (xs.take i) = dsi := by
  have h1 := h.1
  rw [← cwR_wk hk (by rw [List.length_take]; omega)] at h1
  exact ⟨(cw_some h1).1, (cw_some h1).2.2⟩
theorem word_clear {o l m b t x : Int} {ps : List (Int × Int)} (h : x = two l ∨ x = two l + 1) : wordS o l m ps b t x = str [] := by
  have hc : canB l m ps.length t x = false := by
    rw [can_mk]
    rcases h with h | h <;> simp [h]
  exact (word_no (.inr hc)).2
/-- One round: what is known then, the width, the word and what follows. -/
theorem pre_round {o l m b t : Int} {ps : List (Int × Int)} {xs : List Int} {i : Nat} {P : List (Int × Int)} {T : Int} {wsi ws : List Int} {dsi ds : List UInt8} (h : Pre o l m b t ps xs i P T wsi dsi) (hi : i < xs.length) (hw : wk l m b xs ps t 0 = some (ws, ds)) :
    kOK o l m P b T = true ∧ dsi.length ≤ 2000 ∧ ws[i]? = some (widthI l m P.length T) ∧
    ∃ u : List UInt8, wordS o l m P b T xs[i] = str u ∧ u.length ≤ P.length + 2 ∧
      ((xs[i] = two l + 1 ∧ ∃ wsi', Pre o l m b t ps xs (i + 1) P T wsi' (dsi ++ u)) ∨
       (xs[i] ≠ two l + 1 ∧ aftOK o l m P b T xs[i] = true ∧ ∃ wsi', Pre o l m b t ps xs (i + 1) (stepP l m P b T xs[i]) (advT l xs[i]) wsi' (dsi ++ u))) := by
  have hk := (h.2.2.2 hi).2
  obtain ⟨hwi, hs⟩ := pre_step h hi hw
  refine ⟨hk, h.2.2.1, hwi, ?_⟩
  rcases hs with ⟨he, _, hp⟩ | ⟨he, hg, hp⟩
  · exact ⟨[], word_clear (.inr he), by simp, .inl ⟨he, _, by rw [List.append_nil]; exact hp⟩⟩
  · have ha : aftOK o l m P b T xs[i] = true := by rw [aft_go, hk, hg]; rfl
    rcases go_of hg with hc | ⟨hc, hcan⟩
    · refine ⟨[], word_clear (.inl hc), by simp, .inr ⟨he, ha, wsi ++ [widthI l m P.length T], ?_⟩⟩
      rw [wd_clear hc] at hp
      exact hp
    · refine ⟨anyW l P T xs[i], (word_yes hk hcan).2, (any_length l P T xs[i]).2, .inr ⟨he, ha, wsi ++ [widthI l m P.length T], ?_⟩⟩
      rw [wd_word hc] at hp
      exact hp
theorem wk_length {l m b : Int} : ∀ (xs : List Int) (ps : List (Int × Int)) (t : Int) (d : Nat) (r : List Int × List UInt8), wk l m b xs ps t d = some r → r.1.length = xs.length ∧ (d ≤ 2000 → d + r.2.length ≤ 2000)
  | [], ps, t, d, r, h => by
    rw [wk_nil] at h
    injection h with h
    subst h
    exact ⟨rfl, fun h => h⟩
  | x :: xs, ps, t, d, r, h => by
    by_cases h1 : x = two l + 1
    · by_cases h2 : xs = []
      · subst h2
        rw [wk_last h1] at h
        injection h with h
        subst h
        exact ⟨rfl, fun h => h⟩
      · rw [wk_more h1 h2] at h; cases h
    · cases hg : goB l m ps.length t x
      · rw [wk_bad h1 hg] at h; cases h
      · by_cases hd : d + (wdOf l ps t x).length ≤ 2000
        · rw [wk_go h1 hg hd] at h
          rcases hr : wk l m b xs (stepP l m ps b t x) (advT l x) (d + (wdOf l ps t x).length) with _ | r'
          · rw [hr] at h; cases h
          · rw [hr] at h
            injection h with h
            subst h
            have ih := wk_length xs _ _ _ r' hr
            refine ⟨by simp [ih.1], fun _ => ?_⟩
            have := ih.2 hd
            simp only [List.length_append]; omega
        · rw [wk_long h1 (by omega)] at h; cases h
theorem pre_end {o l m b t : Int} {ps : List (Int × Int)} {xs : List Int} {P : List (Int × Int)} {T : Int} {wsi ws : List Int} {dsi ds : List UInt8} (h : Pre o l m b t ps xs xs.length P T wsi dsi) (hw : wk l m b xs ps t 0 = some (ws, ds)) : dsi = ds ∧ ws.length = xs.length := by
  have h1 := h.1
  rw [List.take_length, hw] at h1
  injection h1 with h1
  injection h1 with h2 h3
  exact ⟨h3.symm, by rw [h2]; exact h.2.1⟩
end Sx
theorem IR.take {w : World} {B : Nat} {A : Option Addr} {xs : List Int} (h : IR w B A xs) (i : Nat) : IR w B A (xs.take i) := fun hn => by
  rw [List.length_take] at hn
  obtain ⟨g, off, h1, h2, h3⟩ := h (by omega)
  refine ⟨g, off, h1, h2, fun k hk => ?_⟩
  rw [List.length_take] at hk
  rw [List.getElem_take]
  exact h3 k (by omega)
theorem IR.cell {w : World} {B g off : Nat} {xs : List Int} (h : IR w B (some ⟨g, off, none⟩) xs) {k : Nat} {x : Int} (hk : k < xs.length) (hx : xs[k]? = some x) : w.cell? ⟨g, off + k, none⟩ = some (.int .i64 x) := by
  obtain ⟨g', off', h1, _, h3⟩ := h (by omega)
  injection h1 with h1
  injection h1 with e1 e2
  subst e1; subst e2
  rw [List.getElem?_eq_getElem hk] at hx
  injection hx with hx
  subst hx
  exact h3 k hk
end Go.Proofs.Ytegfcpdkehgdpaa

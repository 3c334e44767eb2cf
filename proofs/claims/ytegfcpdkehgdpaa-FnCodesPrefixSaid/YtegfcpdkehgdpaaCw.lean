/- Plain facts on what is known after a code, and on codes one after the other: no program. Conditions: those that each lemma names. -/
import Derived.Test.YtegfcpdkehgdpaaAf3
namespace Go.Proofs.Ytegfcpdkehgdpaa
namespace Sx
theorem wrev_lits {l : Int} {ps : List (Int × Int)} (hl : two l ≤ 256) (hp : pairsOK l ps ps.length = true) : ∀ (f : Nat) (x : Int), codeB l ps.length x = true → x ≤ two l + 1 + (f : Int) → ∀ u ∈ wrev l ps f x, (u.toNat : Int) < two l
  | 0, x, hx, hf => by
    have := codeB_of hx
    intro u hu
    simp only [wrev, List.mem_singleton] at hu
    subst hu
    rw [byteI_val (by omega) (by omega)]; omega
  | f + 1, x, hx, hf => by
    by_cases h : two l + 1 < x
    · obtain ⟨i, f', hi, he, hf', hc, hb, hlt, h0, h1, hw⟩ := word_step hp hx hf h
      obtain rfl : f' = f := by omega
      rw [hw]
      intro u hu
      rcases List.mem_cons.1 hu with rfl | hu
      · rw [byteI_val h0 (by omega)]; exact h1
      · exact wrev_lits hl hp _ _ hc hb u hu
    · rw [wrev_lit h]
      intro u hu
      have := codeB_of hx
      simp only [List.mem_singleton] at hu
      subst hu
      rw [byteI_val (by omega) (by omega)]; omega
theorem word_lits {l x : Int} {ps : List (Int × Int)} (hl : two l ≤ 256) (hp : pairsOK l ps ps.length = true) (hx : codeB l ps.length x = true) : ∀ u ∈ word l ps x, (u.toNat : Int) < two l := fun u hu =>
  wrev_lits hl hp ps.length x hx (by have := codeB_of hx; have := two_pos l; omega) u (by unfold word at hu; exact List.mem_reverse.1 hu)
theorem any_lits {l t x : Int} {ps : List (Int × Int)} (hl : two l ≤ 256) (hp : pairsOK l ps ps.length = true) (hx : codeB l ps.length x = true ∨ (x = two l + 2 + (ps.length : Int) ∧ codeB l ps.length t = true)) : ∀ u ∈ anyW l ps t x, (u.toNat : Int) < two l := fun u hu => by
  unfold anyW at hu
  split at hu
  · rename_i h
    have ht : codeB l ps.length t = true := by
      rcases hx with hx | hx
      · have := codeB_of hx; omega
      · exact hx.2
    rcases List.mem_append.1 hu with hu | hu
    · exact word_lits hl hp ht u hu
    · exact word_lits hl hp ht u (List.mem_of_mem_take hu)
  · rename_i h
    rcases hx with hx | hx
    · exact word_lits hl hp hx u hu
    · exact absurd hx.1 h
theorem fst_str {L : List UInt8} (h : 0 < L.length) : fstB (str L) = (L[0].toNat : Int) := by
  rw [fst_of (by rw [str_size]; exact h)]; rfl
theorem fst_lit {l t x : Int} {ps : List (Int × Int)} (hl : two l ≤ 256) (hp : pairsOK l ps ps.length = true) (hx : codeB l ps.length x = true ∨ (x = two l + 2 + (ps.length : Int) ∧ codeB l ps.length t = true)) : 0 ≤ fstB (str (anyW l ps t x)) ∧ fstB (str (anyW l ps t x)) < two l := by
  have h := (any_length l ps t x).1
  rw [fst_str h]
  exact ⟨by omega, any_lits hl hp hx _ (List.getElem_mem _)⟩
theorem pairsOK_iff {l : Int} {ps : List (Int × Int)} {n : Nat} (hn : n ≤ ps.length) : pairsOK l ps n = true ↔ ∀ i (h : i < n), pairOK l i (ps[i]'(by omega)) = true := by
  rw [pairsOK, List.all_eq_true]
  constructor
  · intro h i hi
    have := h i (by simpa using hi)
    rwa [List.getD_eq_getElem?_getD, List.getElem?_eq_getElem (by omega), Option.getD_some] at this
  · intro h i hi
    have hi : i < n := by simpa using hi
    rw [List.getD_eq_getElem?_getD, List.getElem?_eq_getElem (by omega), Option.getD_some]
    exact h i hi
theorem pairsOK_take {l : Int} {ps : List (Int × Int)} (k : Nat) (h : pairsOK l ps ps.length = true) : pairsOK l (ps.take k) (ps.take k).length = true := by
  rw [pairsOK_iff (Nat.le_refl _)] at h ⊢
  intro i hi
  rw [List.getElem_take]
  exact h i (by rw [List.length_take] at hi; omega)
theorem pairsOK_snoc {l : Int} {ps : List (Int × Int)} {p : Int × Int} (h : pairsOK l ps ps.length = true) (hp : pairOK l ps.length p = true) : pairsOK l (ps ++ [p]) (ps ++ [p]).length = true := by
  rw [pairsOK_iff (Nat.le_refl _)] at h ⊢
  intro i hi
  rw [List.length_append, List.length_singleton] at hi
  by_cases hl : i < ps.length
  · rw [List.getElem_append_left hl]; exact h i hl
  · obtain rfl : i = ps.length := by omega
    rw [List.getElem_append_right (Nat.le_refl _)]
    simpa using hp
theorem kOK_mk {o l m b t : Int} {ps : List (Int × Int)} (h0 : setOK o l m = true) (h1 : (ps.length : Int) ≤ two m - 1 - (two l + 1)) (h2 : 0 ≤ b ∧ b ≤ (ps.length : Int)) (h3 : pairsOK l ps ps.length = true) (h4 : codeB l ps.length t = true ∨ (t = -1 ∧ b = (ps.length : Int))) : kOK o l m ps b t = true := by
  rw [kOK_last h0 h1 h2 h3]
  rcases h4 with h4 | ⟨h4, h5⟩
  · simp [h4]
  · simp [h4, h5]
/-- Can a code follow that is not the end code? -/
def goB (l m : Int) (n : Nat) (t x : Int) : Bool := decide (x = two l) || canB l m n t x
theorem go_of {l m t x : Int} {n : Nat} (h : goB l m n t x = true) : x = two l ∨ (x ≠ two l ∧ canB l m n t x = true) := by
  simp only [goB, Bool.or_eq_true, decide_eq_true_iff] at h
  by_cases hx : x = two l
  · exact .inl hx
  · exact .inr ⟨hx, h.resolve_left hx⟩
theorem aft_go (o l m : Int) (ps : List (Int × Int)) (b t x : Int) : aftOK o l m ps b t x = (kOK o l m ps b t && goB l m ps.length t x) := rfl
theorem step_ok {o l m b t x : Int} {ps : List (Int × Int)} (h : kOK o l m ps b t = true) (hx : goB l m ps.length t x = true) : kOK o l m (stepP l m ps b t x) b (advT l x) = true := by
  obtain ⟨h0, h1, h2, h3, h4⟩ := kOK_of h
  have hb := setOK_bd h0
  have hl : two l ≤ 256 := by have := two_le (a := l) 8 (by omega); exact this
  unfold stepP
  rcases go_of hx with hx | ⟨hx, hc⟩
  · rw [(adv_clear hx).1, (adv_clear (m := m) (b := b) (t := t) (y := 0) (ps := ps) hx).2]
    have hlen : (ps.take b.toNat).length = b.toNat := by rw [List.length_take]; omega
    exact kOK_mk h0 (by omega) (by omega) (pairsOK_take _ h3) (.inr ⟨rfl, by omega⟩)
  · have hcc := can_code h hc
    have hf := fst_lit hl h3 hcc
    rcases hg : growsB l m ps.length t with _ | _
    · rw [(adv_same hx hg).1, (adv_same (b := b) (y := 0) hx hg).2]
      refine kOK_mk h0 h1 h2 h3 (.inl ?_)
      rcases can_of hc with hc | hc
      · exact hc.1
      · rw [hg] at hc; exact absurd hc.1 (by simp)
    · rw [(adv_grow hx hg).1, (adv_grow (b := b) (y := 0) hx hg).2]
      have hgo := grows_of hg
      have ht : codeB l ps.length t = true := by
        rcases h4 with h4 | h4
        · exact h4
        · omega
      refine kOK_mk h0 (by rw [List.length_append, List.length_singleton]; omega) (by rw [List.length_append, List.length_singleton]; omega) (pairsOK_snoc h3 ?_) (.inl ?_)
      · exact pair_yes ht hf
      · rw [List.length_append, List.length_singleton]
        rcases hcc with hcc | hcc
        · exact codeB_mono hcc (by omega)
        · have := two_pos l
          simp only [codeB, Bool.or_eq_true, decide_eq_true_iff]; omega
/-- The word of a code, none for a clear code. -/
def wdOf (l : Int) (ps : List (Int × Int)) (t x : Int) : List UInt8 := if x = two l then [] else anyW l ps t x
theorem wd_clear {l t x : Int} {ps : List (Int × Int)} (h : x = two l) : wdOf l ps t x = [] := if_pos h
theorem wd_word {l t x : Int} {ps : List (Int × Int)} (h : x ≠ two l) : wdOf l ps t x = anyW l ps t x := if_neg h
/-- The widths and the data of codes that can follow each other, where d bytes stand before. -/
def wk (l m b : Int) : List Int → List (Int × Int) → Int → Nat → Option (List Int × List UInt8)
  | [], _, _, _ => some ([], [])
  | x :: xs, ps, t, d =>
    if x = two l + 1 then (if xs = [] then some ([widthI l m ps.length t], []) else none)
    else if goB l m ps.length t x = true ∧ d + (wdOf l ps t x).length ≤ 2000 then
      (wk l m b xs (stepP l m ps b t x) (advT l x) (d + (wdOf l ps t x).length)).map fun r => (widthI l m ps.length t :: r.1, wdOf l ps t x ++ r.2)
    else none
section
variable {l m b t x : Int} {xs : List Int} {ps : List (Int × Int)} {d : Nat}
theorem wk_nil : wk l m b [] ps t d = some ([], []) := rfl
theorem wk_last (h : x = two l + 1) : wk l m b [x] ps t d = some ([widthI l m ps.length t], []) := by
  rw [wk, if_pos h, if_pos rfl]
theorem wk_more (h : x = two l + 1) (hx : xs ≠ []) : wk l m b (x :: xs) ps t d = none := by
  rw [wk, if_pos h, if_neg hx]
theorem wk_bad (h : x ≠ two l + 1) (hg : goB l m ps.length t x = false) : wk l m b (x :: xs) ps t d = none := by
  rw [wk, if_neg h, if_neg (by simp [hg])]
theorem wk_long (h : x ≠ two l + 1) (hd : 2000 < d + (wdOf l ps t x).length) : wk l m b (x :: xs) ps t d = none := by
  rw [wk, if_neg h, if_neg (by omega)]
theorem wk_go (h : x ≠ two l + 1) (hg : goB l m ps.length t x = true) (hd : d + (wdOf l ps t x).length ≤ 2000) :
    wk l m b (x :: xs) ps t d = (wk l m b xs (stepP l m ps b t x) (advT l x) (d + (wdOf l ps t x).length)).map fun r => (widthI l m ps.length t :: r.1, wdOf l ps t x ++ r.2) := by
  rw [wk, if_neg h, if_pos ⟨hg, hd⟩]
end
/-- What codes yield behind widths and data that are there already. -/
def wkAcc (ws : List Int) (ds : List UInt8) (r : Option (List Int × List UInt8)) : Option (List Int × List UInt8) := r.map fun r => (ws ++ r.1, ds ++ r.2)
theorem acc_some (ws us : List Int) (ds es : List UInt8) : wkAcc ws ds (some (us, es)) = some (ws ++ us, ds ++ es) := rfl
theorem acc_nil (r : Option (List Int × List UInt8)) : wkAcc [] [] r = r := by rcases r with _ | ⟨a, b⟩ <;> rfl
theorem acc_map (ws : List Int) (ds us : List UInt8) (v : Int) (r : Option (List Int × List UInt8)) : wkAcc ws ds (r.map fun r => (v :: r.1, us ++ r.2)) = wkAcc (ws ++ [v]) (ds ++ us) r := by
  rcases r with _ | ⟨a, b⟩
  · rfl
  · simp [wkAcc]
theorem drop_cons (xs : List Int) (k : Nat) (h : k < xs.length) : xs.drop k = xs[k] :: xs.drop (k + 1) := List.drop_eq_getElem_cons h
/-- CodesValid, CodesWidths and CodesData. -/
def cwR (o l m b t : Int) (ps : List (Int × Int)) (xs : List Int) : Option (List Int × List UInt8) := if kOK o l m ps b t = true ∧ xs.length ≤ 3100 then wk l m b xs ps t 0 else none
end Sx
end Go.Proofs.Ytegfcpdkehgdpaa

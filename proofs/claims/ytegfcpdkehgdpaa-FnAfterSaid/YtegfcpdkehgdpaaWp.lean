/- Plain facts on the words of pairs: no program. Conditions: those that each lemma names. -/
import Derived.Test.YtegfcpdkehgdpaaCw
namespace Go.Proofs.Ytegfcpdkehgdpaa
namespace Sx
theorem pairAt_eq {l x : Int} {ps : List (Int × Int)} {i : Nat} (hx : x = two l + 2 + (i : Int)) (hi : i < ps.length) : pairAt l ps x = ps[i] := by
  unfold pairAt
  rw [show (x - (two l + 1) - 1).toNat = i from by omega, List.getD_eq_getElem?_getD, List.getElem?_eq_getElem hi, Option.getD_some]
theorem wrev_more {l : Int} {ps : List (Int × Int)} (hp : pairsOK l ps ps.length = true) : ∀ (f : Nat) (y : Int), codeB l ps.length y = true → y ≤ two l + 1 + (f : Int) → wrev l ps (f + 1) y = wrev l ps f y
  | 0, y, hy, hf => by
    have := codeB_of hy
    rw [wrev_lit (by omega), wrev_lit (by omega)]
  | f + 1, y, hy, hf => by
    by_cases h : two l + 1 < y
    · obtain ⟨i, f', hi, he, hf', hc, hb, hlt, h0, h1, hw⟩ := word_step hp hy hf h
      obtain rfl : f' = f := by omega
      have hq := pairAt_eq he hi
      rw [wrev_pair h, wrev_pair h, hq, wrev_more hp f' _ hc hb]
    · rw [wrev_lit h, wrev_lit h]
/-- The word of a pair is that of its prefix, followed by its byte. -/
theorem word_pair {l x : Int} {ps : List (Int × Int)} {i : Nat} (hp : pairsOK l ps ps.length = true) (hx : x = two l + 2 + (i : Int)) (hi : i < ps.length) : word l ps x = word l ps (ps[i]).1 ++ [byteI (ps[i]).2] := by
  obtain ⟨hc, h0, h1⟩ := pairsOK_at hp hi (Nat.le_refl _)
  have hy := codeB_of hc
  obtain ⟨f, hf⟩ : ∃ f, ps.length = f + 1 := ⟨ps.length - 1, by omega⟩
  have t1 := two_pos l
  have hm := wrev_more hp f (ps[i]).1 (codeB_mono hc (by omega)) (by omega)
  unfold word
  rw [hf, wrev_pair (by omega), pairAt_eq hx hi, hm, List.reverse_cons]
theorem word_lit {l x : Int} {ps : List (Int × Int)} (h : x < two l) : word l ps x = [byteI x] := by
  unfold word
  rw [wrev_lit (by omega)]; rfl
theorem wrev_snoc {l : Int} {ps : List (Int × Int)} (p : Int × Int) (hp : pairsOK l ps ps.length = true) : ∀ (f : Nat) (y : Int), codeB l ps.length y = true → wrev l (ps ++ [p]) f y = wrev l ps f y
  | 0, _, _ => rfl
  | f + 1, y, hy => by
    by_cases h : two l + 1 < y
    · have hb := codeB_of hy
      have t1 := two_pos l
      obtain ⟨i, hi⟩ : ∃ i : Nat, y = two l + 2 + (i : Int) := ⟨(y - (two l + 2)).toNat, by omega⟩
      have hl : i < ps.length := by omega
      obtain ⟨hc, _, _⟩ := pairsOK_at hp hl (Nat.le_refl _)
      have e : (ps ++ [p])[i]'(by rw [List.length_append]; omega) = ps[i] := List.getElem_append_left hl
      rw [wrev_pair h, wrev_pair h, pairAt_eq hi (by rw [List.length_append]; omega), pairAt_eq hi hl, e, wrev_snoc p hp f _ (codeB_mono hc (by omega))]
    · rw [wrev_lit h, wrev_lit h]
/-- A word does not change where a pair is added. -/
theorem word_snoc {l x : Int} {ps : List (Int × Int)} (p : Int × Int) (hp : pairsOK l ps ps.length = true) (hx : codeB l ps.length x = true) : word l (ps ++ [p]) x = word l ps x := by
  have hb := codeB_of hx
  have t1 := two_pos l
  unfold word
  rw [List.length_append, List.length_singleton, wrev_snoc p hp _ _ hx, wrev_more hp _ _ hx (by omega)]
theorem any_code {l t x : Int} {ps : List (Int × Int)} (h : codeB l ps.length x = true) : anyW l ps t x = word l ps x := by
  have := codeB_of h
  have := two_pos l
  exact any_else (by omega)
theorem byteI_ofNat {x : Int} (h0 : 0 ≤ x) (h1 : x < 256) : IntKind.u8.wrap x = ((byteI x).toNat : Int) := by
  rw [byteI_val h0 h1, IntKind.wrap_u8]; omega
end Sx
end Go.Proofs.Ytegfcpdkehgdpaa

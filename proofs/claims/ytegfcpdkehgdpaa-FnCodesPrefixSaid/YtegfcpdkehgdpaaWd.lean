/- Plain facts on the words of codes: no program. Conditions: those that each lemma names. -/
import Derived.Test.YtegfcpdkehgdpaaK5
namespace Go.Proofs.Ytegfcpdkehgdpaa
namespace Sx
/-- The byte of a number. -/
def byteI (x : Int) : UInt8 := UInt8.ofNat x.toNat
theorem byteI_val {x : Int} (h0 : 0 ≤ x) (h1 : x < 256) : ((byteI x).toNat : Int) = x := by
  unfold byteI; rw [UInt8.toNat_ofNat']; omega
/-- The pair of a code behind the end code. -/
def pairAt (l : Int) (ps : List (Int × Int)) (x : Int) : Int × Int := ps.getD (x - (two l + 1) - 1).toNat (0, 0)
/-- A code's word, the last byte first; the number bounds the steps. -/
def wrev (l : Int) (ps : List (Int × Int)) : Nat → Int → List UInt8
  | 0, x => [byteI x]
  | f + 1, x => if two l + 1 < x then byteI (pairAt l ps x).2 :: wrev l ps f (pairAt l ps x).1 else [byteI x]
/-- A code's word. -/
def word (l : Int) (ps : List (Int × Int)) (x : Int) : List UInt8 := (wrev l ps ps.length x).reverse
theorem wrev_lit {l x : Int} {ps : List (Int × Int)} {f : Nat} (h : ¬ two l + 1 < x) : wrev l ps f x = [byteI x] := by
  cases f
  · rfl
  · exact if_neg h
theorem wrev_pair {l x : Int} {ps : List (Int × Int)} {f : Nat} (h : two l + 1 < x) : wrev l ps (f + 1) x = byteI (pairAt l ps x).2 :: wrev l ps f (pairAt l ps x).1 := if_pos h
theorem wrev_length (l : Int) (ps : List (Int × Int)) : ∀ (f : Nat) (x : Int), 1 ≤ (wrev l ps f x).length ∧ (wrev l ps f x).length ≤ f + 1
  | 0, x => by simp [wrev]
  | f + 1, x => by
    have ih := wrev_length l ps f (pairAt l ps x).1
    unfold wrev
    split
    · simp only [List.length_cons]; omega
    · simp
theorem word_length (l : Int) (ps : List (Int × Int)) (x : Int) : 1 ≤ (word l ps x).length ∧ (word l ps x).length ≤ ps.length + 1 := by
  unfold word; rw [List.length_reverse]; exact wrev_length l ps _ x
theorem pairsOK_at {l : Int} {ps : List (Int × Int)} {n k : Nat} (h : pairsOK l ps n = true) (hk : k < n) (hn : n ≤ ps.length) : codeB l k (ps[k]'(by omega)).1 = true ∧ 0 ≤ (ps[k]'(by omega)).2 ∧ (ps[k]'(by omega)).2 < two l := by
  rw [pairsOK, List.all_eq_true] at h
  have h := h k (by simpa using hk)
  rw [List.getD_eq_getElem?_getD, List.getElem?_eq_getElem (by omega), Option.getD_some] at h
  simpa only [pairOK, Bool.and_eq_true, decide_eq_true_iff] using h
theorem codeB_of {l : Int} {n : Nat} {x : Int} (h : codeB l n x = true) : (0 ≤ x ∧ x < two l) ∨ (two l + 2 ≤ x ∧ x ≤ two l + 1 + n) := by
  simpa only [codeB, Bool.or_eq_true, decide_eq_true_iff] using h
theorem codeB_mono {l : Int} {n k : Nat} {x : Int} (h : codeB l n x = true) (hk : n ≤ k) : codeB l k x = true := by
  simp only [codeB, Bool.or_eq_true, decide_eq_true_iff] at h ⊢; omega
/-- What a step of the loop meets: the pair behind a code. -/
theorem word_step {l : Int} {ps : List (Int × Int)} {x : Int} {f : Nat} (hp : pairsOK l ps ps.length = true) (hx : codeB l ps.length x = true) (hf : x ≤ two l + 1 + (f : Int)) (h : two l + 1 < x) :
    ∃ (i f' : Nat) (hi : i < ps.length), x = two l + 2 + (i : Int) ∧ f = f' + 1 ∧ codeB l ps.length (ps[i]).1 = true ∧ (ps[i]).1 ≤ two l + 1 + (f' : Int) ∧ (ps[i]).1 < x ∧ 0 ≤ (ps[i]).2 ∧ (ps[i]).2 < two l ∧ wrev l ps f x = byteI (ps[i]).2 :: wrev l ps f' (ps[i]).1 := by
  have hc := codeB_of hx
  have t1 := two_pos l
  obtain ⟨i, hi⟩ : ∃ i : Nat, x = two l + 2 + (i : Int) := ⟨(x - (two l + 2)).toNat, by omega⟩
  have hin : i < ps.length := by omega
  obtain ⟨f', rfl⟩ : ∃ f', f = f' + 1 := ⟨f - 1, by omega⟩
  obtain ⟨a, b, c⟩ := pairsOK_at hp hin (Nat.le_refl _)
  have ha := codeB_of a
  refine ⟨i, f', hin, hi, rfl, codeB_mono a (by omega), by omega, by omega, b, c, ?_⟩
  have hpa : pairAt l ps x = ps[i] := by
    unfold pairAt
    rw [show (x - (two l + 1) - 1).toNat = i from by omega, List.getD_eq_getElem?_getD, List.getElem?_eq_getElem hin, Option.getD_some]
  rw [wrev_pair h, hpa]
/-- A list after k exchanges from both ends. -/
def swp (L : List UInt8) (k : Nat) : List UInt8 := (List.range L.length).map fun j => if j < k ∨ L.length - k ≤ j then L.getD (L.length - 1 - j) 0 else L.getD j 0
theorem swp_length (L : List UInt8) (k : Nat) : (swp L k).length = L.length := by simp [swp]
theorem swp_get (L : List UInt8) (k j : Nat) (h : j < L.length) : (swp L k)[j]'(by rw [swp_length]; exact h) = if j < k ∨ L.length - k ≤ j then L.getD (L.length - 1 - j) 0 else L.getD j 0 := by simp [swp]
theorem swp_zero (L : List UInt8) : swp L 0 = L := by
  apply List.ext_getElem (swp_length _ _)
  intro j h1 h2
  rw [swp_get _ _ _ h2, if_neg (by omega), List.getD_eq_getElem?_getD, List.getElem?_eq_getElem h2, Option.getD_some]
theorem swp_end {L : List UInt8} {k : Nat} (h : L.length ≤ 2 * k + 1) : swp L k = L.reverse := by
  apply List.ext_getElem (by rw [swp_length, List.length_reverse])
  intro j h1 h2
  have hj : j < L.length := by rw [swp_length] at h1; exact h1
  rw [swp_get _ _ _ hj, List.getElem_reverse]
  by_cases hm : j < k ∨ L.length - k ≤ j
  · rw [if_pos hm, List.getD_eq_getElem?_getD, List.getElem?_eq_getElem (by omega), Option.getD_some]
  · rw [if_neg hm, List.getD_eq_getElem?_getD, List.getElem?_eq_getElem hj, Option.getD_some]
    congr 1; omega
theorem swp_step {L : List UInt8} {k : Nat} (h : 2 * k + 1 < L.length) : ((swp L k).set k ((swp L k).getD (L.length - 1 - k) 0)).set (L.length - 1 - k) ((swp L k).getD k 0) = swp L (k + 1) := by
  have e1 : (swp L k).getD (L.length - 1 - k) 0 = L.getD (L.length - 1 - k) 0 := by
    rw [List.getD_eq_getElem?_getD, List.getElem?_eq_getElem (by rw [swp_length]; omega), Option.getD_some, swp_get _ _ _ (by omega), if_neg (by omega)]
  have e2 : (swp L k).getD k 0 = L.getD k 0 := by
    rw [List.getD_eq_getElem?_getD, List.getElem?_eq_getElem (by rw [swp_length]; omega), Option.getD_some, swp_get _ _ _ (by omega), if_neg (by omega)]
  rw [e1, e2]
  apply List.ext_getElem (by simp [swp_length])
  intro j h1 h2
  have hj : j < L.length := by rw [swp_length] at h2; exact h2
  rw [List.getElem_set, List.getElem_set, swp_get _ _ _ hj, swp_get _ _ _ hj]
  by_cases hb : L.length - 1 - k = j
  · subst hb
    rw [if_pos rfl, if_pos (by omega)]
    congr 1; omega
  · rw [if_neg hb]
    by_cases ha : k = j
    · subst ha
      rw [if_pos rfl, if_pos (by omega)]
    · rw [if_neg ha]
      by_cases hm : j < k ∨ L.length - k ≤ j
      · rw [if_pos hm, if_pos (by omega)]
      · rw [if_neg hm, if_neg (by omega)]
end Sx
end Go.Proofs.Ytegfcpdkehgdpaa

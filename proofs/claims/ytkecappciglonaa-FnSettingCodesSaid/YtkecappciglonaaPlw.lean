/- Plain facts for the laws on packed bits, hexadecimal digits and the codes of a setting: no program. Conditions: those that each lemma names. -/
import Derived.Test.YtkecappciglonaaPpk
import Derived.Test.YtkecappciglonaaPhex
import Derived.Test.YtkecappciglonaaPun
namespace Go.Proofs.Ytkecappciglonaa
namespace Sx

/-! Packing and unpacking. -/
theorem chunk_all {l : List UInt8} (h : l.all isBit = true) (j : Nat) : (chunk l j).all isBit = true := by
  rw [List.all_eq_true] at h ⊢
  intro x hx
  have hx := List.mem_of_mem_take hx
  rw [List.mem_append] at hx
  rcases hx with hx | hx
  · exact h x (List.mem_of_mem_drop hx)
  · rw [List.mem_replicate] at hx; rw [hx.2]; rfl
theorem un_pack_pre {hi : Bool} {l : List UInt8} (h : l.all isBit = true) : ∀ k, k ≤ (l.length + 7) / 8 → unpackL hi (packN hi l k) = (padL l).take (8 * k) := by
  intro k
  induction k with
  | zero => intro _; simp [packN, unpackL]
  | succ k ih =>
    intro hk
    have hc := cbits_numOf hi (chunk l k) (chunk_all h k)
    rw [chunk_length] at hc
    have hn : (UInt8.ofNat (numOf hi (chunk l k))).toNat = numOf hi (chunk l k) := by
      have := byte_num (num_lt hi l k); omega
    rw [packN_succ, unpackL_append, ih (by omega), unpackL_one, hn, hc, ← padL_chunk l k (by omega), show 8 * (k + 1) = 8 * k + 8 from by omega, List.take_add]
theorem un_pack {hi : Bool} {l : List UInt8} (h : l.all isBit = true) : unpackL hi (packL hi l) = padL l := by
  rw [packL, un_pack_pre h _ (Nat.le_refl _), List.take_of_length_le (by rw [padL_length]; exact Nat.le_refl _)]
theorem chunk_behind (x b : List UInt8) (K i : Nat) (h : x.length = 8 * K) : chunk (x ++ b) (K + i) = chunk b i := by
  unfold chunk
  rw [show 8 * (K + i) = x.length + 8 * i from by omega, List.drop_append, List.drop_eq_nil_of_le (by omega), List.nil_append, show x.length + 8 * i - x.length = 8 * i from by omega]
theorem chunk_ahead (a b : List UInt8) (j : Nat) (h : j < (a.length + 7) / 8) : chunk (padL a ++ b) j = chunk a j := by
  rw [← padL_chunk a j h]
  have hp := padL_length a
  unfold chunk
  rw [List.drop_append_of_le_length (by omega), List.append_assoc, List.take_append_of_le_length (by rw [List.length_drop]; omega)]
theorem pack_join (hi : Bool) (a b : List UInt8) : packL hi (padL a ++ b) = packL hi a ++ packL hi b := by
  have hp := padL_length a
  unfold packL packN
  rw [List.length_append, hp, show (8 * ((a.length + 7) / 8) + b.length + 7) / 8 = (a.length + 7) / 8 + (b.length + 7) / 8 from by omega, List.range_add, List.map_append]
  congr 1
  · apply List.map_congr_left
    intro j hj
    rw [chunk_ahead a b j (by simpa using hj)]
  · rw [List.map_map]
    apply List.map_congr_left
    intro i _
    show UInt8.ofNat (numOf hi (chunk (padL a ++ b) ((a.length + 7) / 8 + i))) = _
    rw [chunk_behind _ _ _ _ hp]
theorem pad_pad (l : List UInt8) : padL (padL l) = padL l := padL_self (by rw [padL_length]; omega)

/-! Hexadecimal digits. -/
theorem fhex_cons (b : UInt8) (l : List UInt8) : fhex (b :: l) = hexd (b.toNat / 16) :: hexd (b.toNat % 16) :: fhex l := by
  rw [show b :: l = [b] ++ l from rfl, fhex_append, fhex_one]; rfl
theorem fhex_even : ∀ (l : List UInt8) (k : Nat), k < l.length → (fhex l).getD (2 * k) 0 = hexd ((l.getD k 0).toNat / 16)
  | [], k, h => by simp at h
  | b :: l, 0, _ => by rw [fhex_cons]; rfl
  | b :: l, k + 1, h => by
    rw [fhex_cons, show 2 * (k + 1) = 2 * k + 1 + 1 from by omega, List.getD_cons_succ, List.getD_cons_succ, List.getD_cons_succ]
    exact fhex_even l k (by simpa using h)
theorem fhex_odd : ∀ (l : List UInt8) (k : Nat), k < l.length → (fhex l).getD (2 * k + 1) 0 = hexd ((l.getD k 0).toNat % 16)
  | [], k, h => by simp at h
  | b :: l, 0, _ => by rw [fhex_cons]; rfl
  | b :: l, k + 1, h => by
    rw [fhex_cons, show 2 * (k + 1) + 1 = 2 * k + 1 + 1 + 1 from by omega, List.getD_cons_succ, List.getD_cons_succ, List.getD_cons_succ]
    exact fhex_odd l k (by simpa using h)
theorem hexv_of {n : Nat} (h : n < 16) : hexv (hexd n) = n := hexv_hexd ⟨n, h⟩
theorem hhi_fhex {l : List UInt8} {k : Nat} (h : k < l.length) : hhi (fhex l) k = ((l.getD k 0).toNat / 16 : Nat) := by
  have := (l.getD k 0).toNat_lt
  rw [hhi, fhex_even l k h, hexv_of (by omega)]
theorem hlo_fhex {l : List UInt8} {k : Nat} (h : k < l.length) : hlo (fhex l) k = ((l.getD k 0).toNat % 16 : Nat) := by
  rw [hlo, fhex_odd l k h, hexv_of (by omega)]
theorem hgood_fhex (l : List UInt8) : hgood (fhex l) l.length = true := by
  rw [hgood, List.all_eq_true]
  intro k hk
  have hk : k < l.length := by simpa using hk
  rw [hhi_fhex hk, hlo_fhex hk]
  simp; omega
theorem hout_fhex (l : List UInt8) : hout (fhex l) l.length = l := by
  apply List.ext_getElem (hout_length _ _)
  intro k h1 h2
  simp only [hout, List.getElem_map, List.getElem_range]
  rw [hhi_fhex h2, hlo_fhex h2, List.getD_eq_getElem?_getD, List.getElem?_eq_getElem h2, Option.getD_some]
  have := (l[k]).toNat_lt
  rw [show (16 * (((l[k]).toNat / 16 : Nat) : Int) + (((l[k]).toNat % 16 : Nat) : Int)).toNat = (l[k]).toNat from by omega]
  simp
theorem ph_fhex {s : ByteArray} (h : s.size ≤ 4000) : phOK (fhexS s) = true ∧ phS (fhexS s) = s ∧ (fhexS s).size = 2 * s.size := by
  have hl := len_bytes s
  have hz : (str (fhex s.data.toList)).size = 2 * s.size := by rw [str_size, fhex_length, hl]
  have h2 : (str (fhex s.data.toList)).size / 2 = s.data.toList.length := by omega
  have hok : phOK (str (fhex s.data.toList)) = true := ph_mk (by omega) (by omega) (by rw [h2]; exact hgood_fhex _)
  rw [fhexS_yes h]
  refine ⟨hok, ?_, hz⟩
  rw [ph_yes hok, h2]
  exact (congrArg str (hout_fhex s.data.toList)).trans (str_self s)
theorem hgood_at {l : List UInt8} {n k : Nat} (h : hgood l n = true) (hk : k < n) : 0 ≤ hhi l k ∧ 0 ≤ hlo l k := by
  rw [hgood, List.all_eq_true] at h
  have := h k (by simpa using hk)
  simpa using this
theorem hout_getD {l : List UInt8} {n k : Nat} (hk : k < n) : (hout l n).getD k 0 = UInt8.ofNat (16 * hhi l k + hlo l k).toNat := by
  rw [List.getD_eq_getElem?_getD, List.getElem?_eq_getElem (by rw [hout_length]; exact hk), Option.getD_some]
  simp [hout]
theorem fhex_hout {l : List UInt8} {n : Nat} (hl : l.length = 2 * n) (h : hgood l n = true) : fhex (hout l n) = l := by
  have key : ∀ k, k < n → (fhex (hout l n)).getD (2 * k) 0 = l.getD (2 * k) 0 ∧ (fhex (hout l n)).getD (2 * k + 1) 0 = l.getD (2 * k + 1) 0 := by
    intro k hk
    obtain ⟨g1, g2⟩ := hgood_at h hk
    have b1 := hexv_all (l.getD (2 * k) 0)
    have b2 := hexv_all (l.getD (2 * k + 1) 0)
    have e1 : hhi l k = hexv (l.getD (2 * k) 0) := rfl
    have e2 : hlo l k = hexv (l.getD (2 * k + 1) 0) := rfl
    have hb : (UInt8.ofNat (16 * hhi l k + hlo l k).toNat).toNat = (16 * hhi l k + hlo l k).toNat := by
      rw [UInt8.toNat_ofNat']; omega
    rw [fhex_even _ _ (by rw [hout_length]; exact hk), fhex_odd _ _ (by rw [hout_length]; exact hk), hout_getD hk, hb]
    rw [show (16 * hhi l k + hlo l k).toNat / 16 = (hexv (l.getD (2 * k) 0)).toNat from by omega, show (16 * hhi l k + hlo l k).toNat % 16 = (hexv (l.getD (2 * k + 1) 0)).toNat from by omega]
    exact ⟨hexd_hexv _ (by omega), hexd_hexv _ (by omega)⟩
  have hlen : (fhex (hout l n)).length = l.length := by rw [fhex_length, hout_length, hl]
  apply List.ext_getElem hlen
  intro i h1 h2
  have hg : (fhex (hout l n)).getD i 0 = l.getD i 0 := by
    by_cases hp : i % 2 = 0
    · have := (key (i / 2) (by omega)).1
      rwa [show 2 * (i / 2) = i from by omega] at this
    · have := (key (i / 2) (by omega)).2
      rwa [show 2 * (i / 2) + 1 = i from by omega] at this
  rw [List.getD_eq_getElem?_getD, List.getD_eq_getElem?_getD, List.getElem?_eq_getElem h1, List.getElem?_eq_getElem h2] at hg
  exact hg
theorem fhex_ph {s : ByteArray} (h : phOK s = true) : fhexS (phS s) = s := by
  have hl := len_bytes s
  have h0 : s.size % 2 = 0 ∧ s.size ≤ 8000 ∧ hgood s.data.toList (s.size / 2) = true := by simpa [phOK] using h
  rw [ph_yes h]
  have hz : (str (hout s.data.toList (s.size / 2))).size = s.size / 2 := by rw [str_size, hout_length]
  rw [fhexS_yes (by omega)]
  exact (congrArg str (fhex_hout (l := s.data.toList) (n := s.size / 2) (by omega) h0.2.2)).trans (str_self s)
theorem ph_size {s : ByteArray} (h : phOK s = true) : (phS s).size ≤ 4000 := by
  have h0 : s.size % 2 = 0 ∧ s.size ≤ 8000 ∧ hgood s.data.toList (s.size / 2) = true := by simpa [phOK] using h
  rw [ph_yes h, str_size, hout_length]; omega

/-! The codes of a setting. -/
theorem need_pow_all : ∀ k : Fin 11, need (2 ^ k.val) = k.val + 1 ∧ (1 ≤ k.val → need (2 ^ k.val - 1) = k.val) := by decide +kernel
theorem need_pow {k : Nat} (h : k ≤ 10) : need (2 ^ k) = k + 1 := (need_pow_all ⟨k, by omega⟩).1
theorem need_pre {k : Nat} (h : k ≤ 10) (h1 : 1 ≤ k) : need (2 ^ k - 1) = k := (need_pow_all ⟨k, by omega⟩).2 h1
theorem needI_two {k : Int} (h0 : 0 ≤ k) (h : k ≤ 10) : needI (two k) = k + 1 := by
  obtain ⟨n, rfl⟩ := Int.eq_ofNat_of_zero_le h0
  have := need_pow (k := n) (by omega)
  have e : two (n : Int) = ((2 ^ n : Nat) : Int) := by unfold two; rw [Int.toNat_natCast]
  unfold needI
  rw [e, if_neg (Int.not_lt.2 (Int.natCast_nonneg _)), Int.toNat_natCast, this]; rfl
theorem needI_last {k : Int} (h0 : 1 ≤ k) (h : k ≤ 10) : needI (two k - 1) = k := by
  obtain ⟨n, rfl⟩ := Int.eq_ofNat_of_zero_le (show 0 ≤ k by omega)
  have := need_pre (k := n) (by omega) (by omega)
  have e : two (n : Int) - 1 = ((2 ^ n - 1 : Nat) : Int) := by
    unfold two
    rw [Int.toNat_natCast]
    have := Nat.pow_pos (n := n) (show 0 < 2 by omega)
    omega
  unfold needI
  rw [e, if_neg (Int.not_lt.2 (Int.natCast_nonneg _)), Int.toNat_natCast, this]
theorem two_step {a b : Int} (h0 : 0 ≤ a) (h : a + 2 ≤ b) : 4 * two a ≤ two b := by
  obtain ⟨x, rfl⟩ := Int.eq_ofNat_of_zero_le h0
  obtain ⟨y, rfl⟩ := Int.eq_ofNat_of_zero_le (show 0 ≤ b by omega)
  unfold two
  rw [Int.toNat_natCast, Int.toNat_natCast]
  have h1 : (2 : Nat) ^ (x + 2) ≤ 2 ^ y := Nat.pow_le_pow_right (by omega) (by omega)
  rw [Nat.pow_add] at h1
  omega
theorem two_byte {l : Int} (h : l ≤ 8) : two l ≤ 256 := two_le 8 h
end Sx
end Go.Proofs.Ytkecappciglonaa

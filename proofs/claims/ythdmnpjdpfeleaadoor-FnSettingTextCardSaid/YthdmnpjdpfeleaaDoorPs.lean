/- Plain facts on the text of a setting: no program. Conditions: those that each lemma names. -/
import Derived.Test.YthdmnpjdpfeleaaDoorFt
import Derived.Lib.AtoiAllCases
import Derived.Lib.SplitLaws
namespace Go.Proofs.YthdmnpjdpfeleaaDoor
namespace Sx
theorem text_eq {a b : ByteArray} (h : a = b) : (a.toList == b.toList) = true := by rw [h]; simp
theorem text_ne {a b : ByteArray} (h : a ≠ b) : (a.toList == b.toList) = false := by
  rw [beq_eq_false_iff_ne, ByteArray.toList_eq, ByteArray.toList_eq]
  exact fun e => h (by rw [← str_self a, e, str_self])
theorem text_yes {a : ByteArray} {l : List UInt8} (h : a = str l) : (a.toList == l) = true := by rw [h, ByteArray.toList_eq, str_data]; simp
theorem text_no {a : ByteArray} {l : List UInt8} (h : a ≠ str l) : (a.toList == l) = false := by
  rw [beq_eq_false_iff_ne, ByteArray.toList_eq]
  exact fun e => h (by rw [← str_self a, e])
def decK (n : Nat) : List UInt8 := if n < 10 then [UInt8.ofNat (48 + n)] else [49, 48]
theorem dec_eq {n : Nat} (h : n ≤ 10) : Lib.decDigits n = decK n := by
  unfold decK
  by_cases h1 : n < 10
  · rw [if_pos h1, Lib.decDigits_one h1]
  · obtain rfl : n = 10 := by omega
    rw [if_neg h1, Lib.decDigits_two (by omega) (by omega)]; rfl
/-- The order's word. -/
def preK (o : Int) : List UInt8 := if o = 1 then [104, 105, 103, 104] else [108, 111, 119]
def fmtK (o l m : Nat) : List UInt8 := preK o ++ [32] ++ (decK l ++ [32] ++ decK m)
theorem fmt_eq {o l m : Nat} (hl : l ≤ 10) (hm : m ≤ 10) : fmtL o l m = fmtK o l m := by
  unfold fmtL fmtK preK
  rw [Int.toNat_natCast, Int.toNat_natCast, dec_eq hl, dec_eq hm]
  split <;> rfl
def chk (o l m : Nat) : Bool := decide (Lib.count (fmtK o l m) [32] = 2) && (decide (Lib.splitK [32] 0 2 (fmtK o l m) = [preK o, decK l, decK m]) && (decide (Lib.atoiAll (decK l) = .ok (l : Int)) && decide (Lib.atoiAll (decK m) = .ok (m : Int))))
set_option maxRecDepth 100000 in
theorem chk_all : ∀ o, o < 2 → ∀ l, l < 9 → ∀ m, m < 11 → chk o l m = true := by decide +kernel
/-- The space between the parts. -/
abbrev sp : ByteArray := ⟨#[32]⟩
theorem str_map : ∀ l : List ByteArray, (l.map (·.data.toList)).map str = l
  | [] => rfl
  | a :: l => by rw [List.map_cons, List.map_cons, str_map l, str_self]
/-- The parts of the text of a setting. -/
theorem fmt_parts {o l m : Int} (h : setOK o l m = true) : Lib.countB (str (fmtL o l m)) sp = 2 ∧ Lib.splitB sp 0 2 (str (fmtL o l m)) = [str (preK o), str (Lib.decDigits l.toNat), str (Lib.decDigits m.toNat)] ∧ Lib.atoiAll (Lib.decDigits l.toNat) = .ok l ∧ Lib.atoiAll (Lib.decDigits m.toNat) = .ok m := by
  have hbd := setOK_bd h
  have hod := setOK_od h
  obtain ⟨L, rfl⟩ := Int.eq_ofNat_of_zero_le (show 0 ≤ l by omega)
  obtain ⟨M, rfl⟩ := Int.eq_ofNat_of_zero_le (show 0 ≤ m by omega)
  obtain ⟨O, rfl⟩ := Int.eq_ofNat_of_zero_le (show 0 ≤ o by omega)
  have hc := chk_all O (by omega) L (by omega) M (by omega)
  simp only [chk, Bool.and_eq_true, decide_eq_true_iff] at hc
  obtain ⟨h1, h2, h3, h4⟩ := hc
  rw [fmt_eq (by omega) (by omega), Int.toNat_natCast, Int.toNat_natCast, dec_eq (by omega), dec_eq (by omega)]
  refine ⟨h1, ?_, h3, h4⟩
  rw [← str_map (Lib.splitB sp 0 2 (str (fmtK O L M))), Lib.splitB_data]
  show (Lib.splitK [32] 0 2 (fmtK O L M)).map str = _
  rw [h2]; rfl
theorem pre_inj {o o' : Int} (h : o = 0 ∨ o = 1) (h' : o' = 0 ∨ o' = 1) (he : preK o = preK o') : o = o' := by
  rcases h with rfl | rfl <;> rcases h' with rfl | rfl <;> first | rfl | (exfalso; revert he; decide)
/-- A text is that of one setting at most. -/
theorem fmt_inj {o l m o' l' m' : Int} (h : setOK o l m = true) (h' : setOK o' l' m' = true) (he : str (fmtL o l m) = str (fmtL o' l' m')) : o = o' ∧ l = l' ∧ m = m' := by
  obtain ⟨_, a2, a3, a4⟩ := fmt_parts h
  obtain ⟨_, b2, b3, b4⟩ := fmt_parts h'
  rw [he, b2] at a2
  simp only [List.cons.injEq, and_true] at a2
  obtain ⟨c1, c2, c3⟩ := a2
  have d1 := congrArg (fun s : ByteArray => s.data.toList) c1
  have d2 := congrArg (fun s : ByteArray => s.data.toList) c2
  have d3 := congrArg (fun s : ByteArray => s.data.toList) c3
  simp only [str_data] at d1 d2 d3
  rw [d2, a3] at b3
  rw [d3, a4] at b4
  injection b3 with b3
  injection b4 with b4
  exact ⟨pre_inj (setOK_od h) (setOK_od h') d1.symm, b3, b4⟩
theorem index_one : ∀ s : List UInt8, Lib.index s [32] = -1 ∨ ∃ a r, s = a ++ 32 :: r ∧ Lib.index s [32] = (a.length : Int)
  | [] => .inl rfl
  | b :: l => by
    by_cases hb : b = 32
    · subst hb
      exact .inr ⟨[], l, rfl, rfl⟩
    · have hp : ([32] : List UInt8).isPrefixOf (b :: l) = false := by
        simp only [List.isPrefixOf, Bool.and_true, beq_eq_false_iff_ne]; exact fun e => hb e.symm
      have e : Lib.index (b :: l) [32] = if Lib.index l [32] == -1 then -1 else Lib.index l [32] + 1 := by
        rw [Lib.index, hp]; rfl
      rcases index_one l with h | ⟨a, r, h1, h2⟩
      · exact .inl (by rw [e, h]; rfl)
      · refine .inr ⟨b :: a, r, by rw [h1]; rfl, ?_⟩
        rw [e, h2, if_neg (by rw [beq_iff_eq]; omega), List.length_cons]; omega
/-- The parts, with a space between, are the whole. -/
theorem split_join {k : Nat} {s x : List UInt8} {y : List UInt8} {r : List (List UInt8)} (h : Lib.splitK [32] 0 (k + 1) s = x :: y :: r) : ∃ s', s = x ++ 32 :: s' ∧ Lib.splitK [32] 0 k s' = y :: r := by
  rw [Lib.splitK] at h
  rcases index_one s with h1 | ⟨a, r', h1, h2⟩
  · rw [if_pos (by rw [h1]; rfl)] at h
    simp at h
  · rw [if_neg (by rw [h2, beq_iff_eq]; omega), h2] at h
    simp only [List.cons.injEq] at h
    obtain ⟨h3, h4⟩ := h
    have h5 : x = a := by rw [← h3, h1]; simp
    have h6 : s.drop (a.length + 1) = r' := by rw [h1]; simp
    refine ⟨r', by rw [h5]; exact h1, ?_⟩
    rw [← h4, ← h6]; simp
theorem three_join {t a b c : ByteArray} (h : Lib.splitB sp 0 2 t = [a, b, c]) : t = str (a.data.toList ++ 32 :: (b.data.toList ++ 32 :: c.data.toList)) := by
  have h1 := Lib.splitB_data sp 0 2 t
  rw [h] at h1
  have h1 : Lib.splitK [32] 0 2 t.data.toList = [a.data.toList, b.data.toList, c.data.toList] := h1.symm
  obtain ⟨s', h2, h3⟩ := split_join h1
  obtain ⟨s2, h4, h5⟩ := split_join h3
  have h6 : s2 = c.data.toList := by rw [Lib.splitK] at h5; simpa using h5
  rw [h6] at h4
  rw [h4] at h2
  rw [← h2, str_self]
/-- What a part spells, if it spells it as numbers are written. -/
def numR (u : ByteArray) : Option Int := match Lib.atoiAll u.data.toList with
  | .ok n => if str (Lib.itoa n) = u then some n else none
  | _ => none
theorem numR_dec {n : Nat} (hn : Lib.atoiAll (Lib.decDigits n) = .ok (n : Int)) : numR (str (Lib.decDigits n)) = some (n : Int) := by
  unfold numR
  rw [str_data, hn]
  exact if_pos (by rw [Lib.itoa_nonneg])
theorem numR_some {u : ByteArray} {n : Int} (h : numR u = some n) (h0 : 0 ≤ n) : u = str (Lib.decDigits n.toNat) := by
  unfold numR at h
  split at h
  · split at h
    · rename_i he
      injection h with h
      subst h
      rw [← he]
      obtain ⟨k, rfl⟩ := Int.eq_ofNat_of_zero_le h0
      rw [Lib.itoa_nonneg, Int.toNat_natCast]
    · cases h
  · cases h
/-- What parsing the text of a setting answers. -/
def ParseR (t : ByteArray) (e : Ending) : Prop :=
  (∃ o l m : Int, setOK o l m = true ∧ str (fmtL o l m) = t ∧ e = .returned (.tuple #[sv o l m, .bool true])) ∨ ((∀ o l m : Int, setOK o l m = true → str (fmtL o l m) ≠ t) ∧ e = .returned (.tuple #[sv 0 0 0, .bool false]))
/-- Three parts that spell a setting. -/
theorem parse_yes {t f1 f2 : ByteArray} {o l m : Int} (h : Lib.splitB sp 0 2 t = [str (preK o), f1, f2]) (h1 : numR f1 = some l) (h2 : numR f2 = some m) (hk : setOK o l m = true) : str (fmtL o l m) = t := by
  have hbd := setOK_bd hk
  rw [three_join h, numR_some h1 (by omega), numR_some h2 (by omega), str_data, str_data, str_data]
  unfold fmtL preK
  split <;> simp
/-- A text of a setting falls into its three parts. -/
theorem parse_parts {t : ByteArray} {o l m : Int} (hk : setOK o l m = true) (ht : str (fmtL o l m) = t) : Lib.countB t sp = 2 ∧ ∃ f1 f2, Lib.splitB sp 0 2 t = [str (preK o), f1, f2] ∧ numR f1 = some l ∧ numR f2 = some m := by
  subst ht
  have hbd := setOK_bd hk
  obtain ⟨a1, a2, a3, a4⟩ := fmt_parts hk
  obtain ⟨L, rfl⟩ := Int.eq_ofNat_of_zero_le (show 0 ≤ l by omega)
  obtain ⟨M, rfl⟩ := Int.eq_ofNat_of_zero_le (show 0 ≤ m by omega)
  exact ⟨a1, _, _, a2, numR_dec a3, numR_dec a4⟩
end Sx
end Go.Proofs.YthdmnpjdpfeleaaDoor

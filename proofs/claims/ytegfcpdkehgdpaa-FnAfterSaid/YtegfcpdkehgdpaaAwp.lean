/- What a drawn code does to what is known: the laws' common part. Conditions: those that each lemma names. -/
import Derived.Test.YtegfcpdkehgdpaaDk4
import Derived.Test.YtegfcpdkehgdpaaSo
import Derived.Test.YtegfcpdkehgdpaaWpLaw
import Derived.Test.YtegfcpdkehgdpaaAf6
namespace Go.Proofs.Ytegfcpdkehgdpaa
open Go.RowKit

/-- What After answers where nothing can follow. -/
def AftN (fn : Nat) (o l m b t x : Int) (ps : List (Int × Int)) : Prop :=
  ∀ (A : Option Addr) (c : Nat) (wx : World), PR wx wx.heap.size A ps → ps.length ≤ c → Calls Try.prog fn #[kv o l m A ps.length c b t, .int .i64 x] wx fun e w' => ∃ A' c', e = .returned (.tuple #[kv 0 0 0 A' 0 c' 0 0, .bool false]) ∧ Below wx.heap.size wx w'
/-- What After answers where a code can follow. -/
def AftY (fn : Nat) (o l m b t x : Int) (ps : List (Int × Int)) : Prop :=
  ∀ (A : Option Addr) (c : Nat) (wx : World), PR wx wx.heap.size A ps → ps.length ≤ c → Calls Try.prog fn #[kv o l m A ps.length c b t, .int .i64 x] wx fun e w' => ∃ A' c', e = .returned (.tuple #[kv o l m A' (Sx.stepP l m ps b t x).length c' b (Sx.advT l x), .bool true]) ∧ OwnP w' wx.heap.size A' (Sx.stepP l m ps b t x) ∧ Below wx.heap.size wx w'
theorem after_none {o l m b t x : Int} {ps : List (Int × Int)} (hz : ps.length ≤ 1048576) (h : Sx.aftOK o l m ps b t x = false) : AftN 15 o l m b t x ps ∧ AftN 17 o l m b t x ps :=
  ⟨fun A c wx hp hc => by
    have := spec_After o l m A c b t x ps wx hp hz hc
    rw [h] at this
    exact this.mono fun _ _ ⟨A', c', h1, _, _, h4⟩ => ⟨A', c', h1, h4⟩,
  fun A c wx hp _ => by
    have := impl_After o l m A c b t x ps wx hp hz
    rw [h] at this
    exact this.mono fun _ _ ⟨A', c', h1, _, h4⟩ => ⟨A', c', h1, h4⟩⟩
theorem after_some {o l m b t x : Int} {ps : List (Int × Int)} (hz : ps.length ≤ 1048576) (h : Sx.aftOK o l m ps b t x = true) : AftY 15 o l m b t x ps ∧ AftY 17 o l m b t x ps :=
  ⟨fun A c wx hp hc => by
    have := spec_After o l m A c b t x ps wx hp hz hc
    rw [h] at this
    exact this.mono fun _ _ ⟨A', c', h1, h2, _, h4⟩ => ⟨A', c', h1, h2, h4⟩,
  fun A c wx hp _ => by
    have := impl_After o l m A c b t x ps wx hp hz
    rw [h] at this
    exact this.mono fun _ _ ⟨A', c', h1, h2, h4⟩ => ⟨A', c', h1, h2, h4⟩⟩
theorem so00 (A A' : Option Addr) (c c' : Nat) (wx : World) : Calls Try.prog 38 #[kv 0 0 0 A 0 c 0 0, kv 0 0 0 A' 0 c' 0 0] wx fun e w' => e = .returned (.bool true) ∧ Below wx.heap.size wx w' :=
  laws_soKnown 0 0 0 A A' c c' 0 0 [] wx (fun h => absurd h (by simp)) (fun h => absurd h (by simp)) (by simp)
theorem str_take (L : List UInt8) : (str L).extract 0 1 = str (L.take 1) := by
  rw [← str_self ((str L).extract 0 1), Lib.extract_data (str L) 0 1, str_data]; rfl
theorem Sx.head_one {L : List UInt8} (h : 0 < L.length) : L.take 1 = [Sx.byteI (Sx.fstB (str L))] := by
  rw [Sx.fst_str h]
  have hb : Sx.byteI ((L[0].toNat : Nat) : Int) = L[0] := by
    unfold Sx.byteI; rw [Int.toNat_natCast]; exact UInt8.ofNat_toNat
  rw [hb]
  cases L with
  | nil => simp at h
  | cons a rest => rfl
/-- The word that a code adds. -/
theorem Sx.fresh_is {o l m b t x : Int} {ps : List (Int × Int)} (hk : Sx.kOK o l m ps b t = true) (hc : Sx.canB l m ps.length t x = true) (hg : Sx.growsB l m ps.length t = true) :
    Sx.stepP l m ps b t x = ps ++ [(t, Sx.fstB (str (Sx.anyW l ps t x)))] ∧ Sx.advT l x = x ∧
    Sx.wordS o l m (Sx.stepP l m ps b t x) b x (Sx.two l + 2 + (ps.length : Int)) = str (Sx.word l ps t) ++ (str (Sx.anyW l ps t x)).extract 0 1 ∧
    Sx.wordS o l m (Sx.stepP l m ps b t x) b x x = str (Sx.anyW l ps t x) ∧ Sx.wordS o l m ps b t t = str (Sx.word l ps t) ∧
    (x = Sx.two l + 2 + (ps.length : Int) → str (Sx.word l ps t) ++ (str (Sx.anyW l ps t x)).extract 0 1 = str (Sx.anyW l ps t x)) := by
  have hx : x ≠ Sx.two l := by
    rintro rfl
    rw [Sx.can_mk] at hc; simp at hc
  have hs : Sx.stepP l m ps b t x = ps ++ [(t, Sx.fstB (str (Sx.anyW l ps t x)))] := (Sx.adv_grow hx hg).1
  have ha : Sx.advT l x = x := if_neg hx
  have hk2 := Sx.step_ok hk (x := x) (by simp [Sx.goB, hc])
  rw [ha] at hk2
  have hps := (Sx.kOK_of hk).2.2.2.1
  have hps2 := (Sx.kOK_of hk2).2.2.2.1
  have t1 := Sx.two_pos l
  have ht : Sx.codeB l ps.length t = true := by
    have := (Sx.grows_of hg).1
    rcases (Sx.kOK_of hk).2.2.2.2 with h | h
    · exact h
    · omega
  have hlen : (ps ++ [(t, Sx.fstB (str (Sx.anyW l ps t x)))]).length = ps.length + 1 := by simp
  have hL := (Sx.any_length l ps t x).1
  have hn2 : Sx.codeB l (ps.length + 1) (Sx.two l + 2 + (ps.length : Int)) = true := by
    simp only [Sx.codeB, Bool.or_eq_true, decide_eq_true_iff]; omega
  have hfr : Sx.word l (ps ++ [(t, Sx.fstB (str (Sx.anyW l ps t x)))]) (Sx.two l + 2 + (ps.length : Int)) = Sx.word l ps t ++ (Sx.anyW l ps t x).take 1 := by
    rw [hs] at hps2
    have e : (ps ++ [(t, Sx.fstB (str (Sx.anyW l ps t x)))])[ps.length]'(by rw [hlen]; omega) = (t, Sx.fstB (str (Sx.anyW l ps t x))) := by simp
    rw [Sx.word_pair hps2 rfl (by rw [hlen]; omega), e, Sx.word_snoc _ hps ht, Sx.head_one hL]
  have hf2 : str (Sx.word l (ps ++ [(t, Sx.fstB (str (Sx.anyW l ps t x)))]) (Sx.two l + 2 + (ps.length : Int))) = str (Sx.word l ps t) ++ (str (Sx.anyW l ps t x)).extract 0 1 := by
    rw [hfr, str_take, str_append]
  have hnx : x = Sx.two l + 2 + (ps.length : Int) → str (Sx.word l ps t) ++ (str (Sx.anyW l ps t x)).extract 0 1 = str (Sx.anyW l ps t x) := fun e => by
    rw [str_take, str_append, Sx.any_next e]
    have hw := (Sx.word_length l ps t).1
    rw [List.take_append_of_le_length (by omega)]
  refine ⟨hs, ha, ?_, ?_, Sx.wordS_code hk ht, hnx⟩
  · rw [Sx.wordS_code hk2 (by rw [hs, hlen]; exact hn2), hs, hf2]
  · rcases Sx.can_code hk hc with hcx | hcx
    · rw [Sx.wordS_code hk2 (by rw [hs, hlen]; exact Sx.codeB_mono hcx (by omega)), hs, Sx.word_snoc _ hps hcx, Sx.any_code hcx]
    · rw [Sx.wordS_code hk2 (by rw [hs, hlen, hcx.1]; exact hn2), hs, congrArg (Sx.word l (ps ++ [(t, Sx.fstB (str (Sx.anyW l ps t x)))])) hcx.1, hf2]
      exact hnx hcx.1
end Go.Proofs.Ytegfcpdkehgdpaa

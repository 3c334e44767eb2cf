/- The walks of the conversions and comparisons that the exact laws use on known things. Conditions: the pairs' cells lie below the call's own memory. -/
import Derived.Test.YtegfcpdkehgdpaaK2
import Derived.Test.YtegfcpdkehgdpaaT
namespace Go.Proofs.Ytegfcpdkehgdpaa
open Go.RowKit

def pvals (ps : List (Int × Int)) : List Value := ps.flatMap fun p => [.int .i64 p.1, .int .i64 p.2]
def pcells (ps : List (Int × Int)) : Array Value := (pvals ps).toArray
theorem pvals_cons (p : Int × Int) (ps : List (Int × Int)) : pvals (p :: ps) = .int .i64 p.1 :: .int .i64 p.2 :: pvals ps := rfl
theorem pvals_append (a b : List (Int × Int)) : pvals (a ++ b) = pvals a ++ pvals b := List.flatMap_append
theorem pvals_length (ps : List (Int × Int)) : (pvals ps).length = ps.length * 2 := by
  induction ps with
  | nil => rfl
  | cons p ps ih => rw [pvals_cons]; simp [ih]; omega
theorem pvals_get : ∀ (ps : List (Int × Int)) (k : Nat) (h : k < ps.length), (pvals ps)[k * 2]? = some (.int .i64 (ps[k]).1) ∧ (pvals ps)[k * 2 + 1]? = some (.int .i64 (ps[k]).2)
  | [], k, h => by simp at h
  | p :: ps, 0, _ => ⟨rfl, rfl⟩
  | p :: ps, k + 1, h => by
    have := pvals_get ps k (by simpa using h)
    rw [pvals_cons, show (k + 1) * 2 = k * 2 + 1 + 1 from by omega]
    simpa using this
theorem pcells_size (ps : List (Int × Int)) : (pcells ps).size = ps.length * 2 := by unfold pcells; rw [List.size_toArray, pvals_length]
theorem PR.of_blk {w : World} {g B : Nat} {t : TypeId} {ps : List (Int × Int)} (h : Blk w g t (pcells ps)) (hg : g < B) : PR w B (some ⟨g, 0, none⟩) ps := fun _ =>
  ⟨g, 0, rfl, hg, fun k hk => by
    have := pvals_get ps k hk
    rw [Nat.zero_add]
    exact ⟨(h.cell _).trans (by unfold pcells; simpa using this.1), (h.cell _).trans (by unfold pcells; simpa using this.2)⟩⟩
theorem blk_of_make {w : World} {base g n size : Nat} {e : TypeId} {xs : List Value} (h : w.ownsRow base e size (.slice (some ⟨g, 0, none⟩) n n) n xs) : ∃ cs, Blk w g e cs ∧ cs.size = n * size := by
  rcases h.2 with ⟨hv, _⟩ | ⟨g', cap, cur, hv, _, hh, _, _, hsz, _⟩
  · cases hv
  · injection hv with h1 _ h3
    injection h1 with h1
    injection h1 with h1 _ _
    subst h1 h3
    exact ⟨cur, hh, hsz⟩
/-- The first k pairs stand in a row. -/
def RowTo (cs : Array Value) (ps : List (Int × Int)) (k : Nat) : Prop := cs.size = ps.length * 2 ∧ ∀ j (h : j < ps.length), j < k → cs[j * 2]? = some (.int .i64 (ps[j]).1) ∧ cs[j * 2 + 1]? = some (.int .i64 (ps[j]).2)
theorem RowTo.step {cs : Array Value} {ps : List (Int × Int)} {k : Nat} (h : RowTo cs ps k) (hk : k < ps.length) :
    RowTo ((cs.setIfInBounds (k * 2) (.int .i64 (ps[k]).1)).setIfInBounds (k * 2 + 1) (.int .i64 (ps[k]).2)) ps (k + 1) := by
  have hz := h.1
  refine ⟨by simpa using hz, fun j hj hjk => ?_⟩
  simp only [Array.getElem?_setIfInBounds, Array.size_setIfInBounds]
  by_cases hjk' : j = k
  · subst hjk'
    exact ⟨by rw [if_neg (by omega), if_pos rfl, if_pos (by omega)], by rw [if_pos rfl, if_pos (by omega)]⟩
  · have := h.2 j hj (by omega)
    exact ⟨by rw [if_neg (by omega), if_neg (by omega)]; exact this.1, by rw [if_neg (by omega), if_neg (by omega)]; exact this.2⟩
theorem RowTo.all {cs : Array Value} {ps : List (Int × Int)} (h : RowTo cs ps ps.length) : cs = pcells ps := by
  apply Array.ext
  · rw [h.1, pcells_size]
  · intro i h1 h2
    have hi : i < ps.length * 2 := by rw [← h.1]; exact h1
    have hc := h.2 (i / 2) (by omega) (by omega)
    have hp := pvals_get ps (i / 2) (by omega)
    have e1 : ∀ j, (pcells ps)[j]? = (pvals ps)[j]? := fun j => by rw [pcells, List.getElem?_toArray]
    by_cases he : i % 2 = 0
    · have ei : i / 2 * 2 = i := by omega
      rw [ei] at hc hp
      have := hc.1.trans (hp.1.symm.trans (e1 i).symm)
      rwa [Array.getElem?_eq_getElem h1, Array.getElem?_eq_getElem h2, Option.some.injEq] at this
    · have ei : i / 2 * 2 + 1 = i := by omega
      rw [ei] at hc hp
      have := hc.2.trans (hp.2.symm.trans (e1 i).symm)
      rwa [Array.getElem?_eq_getElem h1, Array.getElem?_eq_getElem h2, Option.some.injEq] at this

theorem try_infoP : (Try.prog.info? 63).map (fun i => (i.zero, i.size, i.bytes)) = some (some (.agg #[.int .i64 0, .int .i64 0]), 2, 16) := by kernel_rfl

set_option maxRecDepth 100000 in
set_option maxHeartbeats 1000000 in
theorem laws_toPair (x y : Int) (w : World) :
    Calls Try.prog 102 #[.agg #[.int .i64 x, .int .i64 y]] w fun e w' => e = .returned (.agg #[.int .i64 x, .int .i64 y]) ∧ Below w.heap.size w w' := by
  go_enter Try.func102, Try.ntmps102
  go_wp2
  exact bodyPost_ret (v := .agg #[.int .i64 x, .int .i64 y]) (by simp [results, Try.results102, go_sem]) rfl ⟨rfl, (by repeat' (first | exact Below.refl _ _ | assumption | exact Nat.le_refl _ | apply Below.alloc | apply Below.drew | (focus (simp; done)) | (focus (simp; omega)) | omega))⟩

set_option maxRecDepth 100000 in
set_option maxHeartbeats 2000000 in
theorem laws_toPairS (A : Option Addr) (c : Nat) (ps : List (Int × Int)) (w : World) (hr : PR w w.heap.size A ps) (hz : ps.length ≤ 1048576) :
    Calls Try.prog 61 #[.slice A ps.length c] w fun e w' => e = .returned (.slice (some ⟨w.heap.size, 0, none⟩) ps.length ps.length) ∧ Blk w' w.heap.size 63 (pcells ps) ∧ Below w.heap.size w w' := by
  obtain ⟨i0, hi0, hz0, hz1, hz2⟩ := info_parts try_infoP
  go_enter Try.func61, Try.ntmps61
  go_wp2_with (at_make; refine wpList_make_full _ rfl (.tmp 6) (.tmp 6) 29 rfl w.heap.size 63 i0 (.agg #[.int .i64 0, .int .i64 0]) 2 Try.underlying29 hi0 hz0 hz1 .i64 .i64 _ _ ps.length rfl rfl rfl rfl (by rw [hz2]; omega) (by simp only [maxLen]; omega) (Nat.le_refl _) ?_; intro w1 hown1 hgrow1)
  have hb1 : Below w.heap.size w w1 := (Below.refl _ _).grown hgrow1 (Nat.le_refl _) (by simp)
  obtain ⟨cs0, hblk, hsz⟩ := blk_of_make hown1
  clear hown1 hgrow1
  go_loopw [4] (fun i wr => ∃ (k : Nat) (cs : Array Value), k ≤ ps.length ∧ i = .int .i64 k ∧ Blk wr w.heap.size 63 cs ∧ RowTo cs ps k ∧ Below w.heap.size w wr) (fun i _ => ps.length - (intOf i).toNat)
  case atStart => exact ⟨0, cs0, Nat.zero_le _, rfl, hblk, ⟨hsz, fun j _ h => absurd h (by omega)⟩, hb1⟩
  case round =>
    obtain ⟨k, cs, hk, rfl, hB, hR, hbw⟩ := hrel
    by_cases hlt : k < ps.length
    · obtain ⟨pg, po, rfl, hpg, hpc⟩ := hr (by omega)
      have HRS := hide (hR.step hlt)
      obtain ⟨px, hpx⟩ : ∃ x, x = (ps[k]).1 := ⟨_, rfl⟩
      obtain ⟨py, hpy⟩ : ∃ x, x = (ps[k]).2 := ⟨_, rfl⟩
      have hx := hpc k hlt
      rw [← hpx, ← hpy] at hx HRS
      have x0 := (hbw.cell (p := ⟨pg, po + k * 2, none⟩) hpg).trans hx.1
      have x1 := (hbw.cell (p := ⟨pg, po + k * 2 + 1, none⟩) hpg).trans hx.2
      have hcz := hR.1
      clear hpx hpy hx hpc hpg hR
      go_wp2_with fail
      refine (laws_toPair _ _ _).mono ?_; rintro e w2 ⟨rfl, hb2⟩
      have hB2 := hB.below hb2 hB.lt
      have B2 := below_next (Nat.le_refl _) hbw hb2
      have y0 : w2.cell? ⟨w.heap.size, k * 2, none⟩ = some cs[k * 2] := (hB2.cell _).trans (Array.getElem?_eq_getElem (by omega))
      have y1 : w2.cell? ⟨w.heap.size, k * 2 + 1, none⟩ = some cs[k * 2 + 1] := (hB2.cell _).trans (Array.getElem?_eq_getElem (by omega))
      have f0 := hB2.frozen (k * 2)
      have f1 := hB2.frozen (k * 2 + 1)
      clear hb2 hB hbw x0 x1
      go_wp2_with fail
      go_roundw
      case rel => exact ⟨k + 1, _, by omega, by go_num, (hB2.set_ _ _).set_ _ _, HRS.out, (B2.setCell (p := ⟨w.heap.size, k * 2, none⟩) (Nat.le_refl _) _).setCell (p := ⟨w.heap.size, k * 2 + 1, none⟩) (Nat.le_refl _) _⟩
      case measure => simp [intOf]; omega
    · obtain rfl : k = ps.length := by omega
      have := hR.all
      subst this
      go_wp2_with fail
      go_ret
      exact ⟨rfl, hB, hbw⟩

set_option maxHeartbeats 1000000 in
theorem laws_szPairS (A : Option Addr) (n c : Nat) (w : World) (hn : n ≤ 9223372036854775807) :
    Calls Try.prog 55 #[.slice A n c, .int .i64 1048576] w fun e w' => e = .returned (.int .i64 (if n ≤ 1048576 then 1048576 - (n : Int) else -1)) ∧ w = w' := by
  by_cases h : n ≤ 1048576
  · rw [if_pos h]
    go_enter Try.func55, Try.ntmps55
    go_wp2_with fail
    go_ret
    exact ⟨rfl, rfl⟩
  · rw [if_neg h]
    go_enter Try.func55, Try.ntmps55
    go_wp2_with fail
    go_ret
    exact ⟨rfl, rfl⟩

set_option maxHeartbeats 1000000 in
theorem laws_szKnown (o l m : Int) (A : Option Addr) (n c : Nat) (b t : Int) (w : World) (hn : n ≤ 9223372036854775807) :
    Calls Try.prog 14 #[kv o l m A n c b t, .int .i64 1048576] w fun e w' => e = .returned (.int .i64 (if n ≤ 1048576 then 1048576 - (n : Int) else -1)) ∧ Below w.heap.size w w' := by
  have CS := laws_szPairS A n c (w.alloc (.cells #[.int .i64 o, .int .i64 l, .int .i64 m, .slice A n c, .int .i64 b, .int .i64 t] 26)) hn
  by_cases h : n ≤ 1048576
  · rw [if_pos h] at CS ⊢
    have CS := hide CS
    go_enter Try.func14, Try.ntmps14
    go_wp2_with fail
    refine (unhide CS).mono ?_; rintro e w1 ⟨rfl, rfl⟩
    go_wp2_with fail
    go_ret
    exact ⟨rfl, (Below.refl _ _).alloc (Nat.le_refl _) _⟩
  · rw [if_neg h] at CS ⊢
    have CS := hide CS
    go_enter Try.func14, Try.ntmps14
    go_wp2_with fail
    refine (unhide CS).mono ?_; rintro e w1 ⟨rfl, rfl⟩
    go_wp2_with fail
    go_ret
    exact ⟨rfl, (Below.refl _ _).alloc (Nat.le_refl _) _⟩

set_option maxHeartbeats 1000000 in
theorem laws_eqSetting (o l m : Int) (w : World) :
    Calls Try.prog 66 #[sv o l m, sv o l m] w fun e w' => e = .returned (.bool true) ∧ Below w.heap.size w w' := by
  go_enter Try.func66, Try.ntmps66
  go_wp2_with fail
  go_ret
  exact ⟨rfl, (by repeat' (first | exact Below.refl _ _ | assumption | exact Nat.le_refl _ | apply Below.alloc | apply Below.drew | (focus (simp; done)) | (focus (simp; omega)) | omega))⟩

set_option maxHeartbeats 1000000 in
theorem laws_eqPair (x y : Int) (w : World) :
    Calls Try.prog 104 #[.agg #[.int .i64 x, .int .i64 y], .agg #[.int .i64 x, .int .i64 y]] w fun e w' => e = .returned (.bool true) ∧ Below w.heap.size w w' := by
  go_enter Try.func104, Try.ntmps104
  go_wp2_with fail
  go_ret
  exact ⟨rfl, (by repeat' (first | exact Below.refl _ _ | assumption | exact Nat.le_refl _ | apply Below.alloc | apply Below.drew | (focus (simp; done)) | (focus (simp; omega)) | omega))⟩
end Go.Proofs.Ytegfcpdkehgdpaa

/- The walks of the exact laws' helpers on rows of numbers. Conditions: the numbers' cells lie below the call's own memory, or in a row of its own. -/
import Derived.Test.YtegfcpdkehgdpaaKP
namespace Go.Proofs.Ytegfcpdkehgdpaa
open Go.RowKit

/-- Numbers in memory, below block B. -/
def IR (w : World) (B : Nat) (A : Option Addr) (xs : List Int) : Prop := 0 < xs.length → ∃ g off, A = some ⟨g, off, none⟩ ∧ g < B ∧ ∀ k (h : k < xs.length), w.cell? ⟨g, off + k, none⟩ = some (.int .i64 xs[k])
def ivals (xs : List Int) : List Value := xs.map fun x => .int .i64 x
theorem ivals_length (xs : List Int) : (ivals xs).length = xs.length := by simp [ivals]
theorem ivals_get (xs : List Int) (j : Nat) (h : j < xs.length) : (ivals xs)[j]? = some (.int .i64 xs[j]) := by simp [ivals, h]
theorem ivals_append (xs ys : List Int) : ivals (xs ++ ys) = ivals xs ++ ivals ys := by simp [ivals]
theorem ivals_one (xs : List Int) : ∀ u ∈ ivals xs, u.oneCell' = true := by
  intro u hu
  simp only [ivals, List.mem_map] at hu
  obtain ⟨x, _, rfl⟩ := hu
  rfl
theorem IR.keep {w w' : World} {B B' : Nat} {A : Option Addr} {xs : List Int} (h : IR w B A xs) (hB : B ≤ B') (hb : Below B w w') : IR w' B' A xs := fun h0 => by
  obtain ⟨g, off, hA, hg, hc⟩ := h h0
  exact ⟨g, off, hA, by omega, fun k hk => (hb.cell (p := ⟨g, off + k, none⟩) hg).trans (hc k hk)⟩
/-- Numbers in a row of the call's own, from block base on. -/
def OwnI (w : World) (base : Nat) (A : Option Addr) (xs : List Int) : Prop :=
  xs = [] ∨ ∃ g cs, A = some ⟨g, 0, none⟩ ∧ base ≤ g ∧ Blk w g 3 cs ∧ xs.length ≤ cs.size ∧ ∀ j (h : j < xs.length), cs[j]? = some (.int .i64 xs[j])
theorem OwnI.of_own {w : World} {base n c : Nat} {A : Option Addr} {xs : List Int} (hn : xs.length = n) (h : w.ownsRow base 3 1 (.slice A n c) n (ivals xs)) : OwnI w base A xs := by
  subst hn
  rcases h.2 with ⟨_, h0⟩ | ⟨g, cap, cur, hv, hb, hh, hc, _, hsz, htk⟩
  · exact .inl (List.eq_nil_of_length_eq_zero h0)
  · injection hv with hA _ _
    refine .inr ⟨g, cur, hA, hb, hh, by omega, fun j hj => ?_⟩
    have hp := ivals_get xs j hj
    rw [← htk, List.getElem?_take, if_pos (by omega)] at hp
    simpa using hp
theorem OwnI.ir {w : World} {base B : Nat} {A : Option Addr} {xs : List Int} (h : OwnI w base A xs) (hB : w.heap.size ≤ B) : IR w B A xs := fun h0 => by
  rcases h with rfl | ⟨g, cs, rfl, _, hk, _, hc⟩
  · simp at h0
  · exact ⟨g, 0, rfl, Nat.lt_of_lt_of_le hk.lt hB, fun k hk2 => by rw [Nat.zero_add]; exact (hk.cell _).trans (hc k hk2)⟩
theorem OwnI.keep {w w' : World} {base : Nat} {A : Option Addr} {xs : List Int} (h : OwnI w base A xs) (hk : ∀ g, some g = blkOf A → g < w.heap.size → w'.heap[g]? = w.heap[g]?) : OwnI w' base A xs := by
  rcases h with rfl | ⟨g, cs, rfl, hb, hB, hz, hc⟩
  · exact .inl rfl
  · exact .inr ⟨g, cs, rfl, hb, (hk g rfl hB.lt).trans hB, hz, hc⟩
theorem OwnI.below {w w' : World} {base : Nat} {A : Option Addr} {xs : List Int} (h : OwnI w base A xs) (hb : Below w.heap.size w w') : OwnI w' base A xs := h.keep fun g _ hg => hb.block g hg
/-- The first k numbers stand in a row. -/
def RowI (cs : Array Value) (xs : List Int) (k : Nat) : Prop := cs.size = xs.length ∧ ∀ j (h : j < xs.length), j < k → cs[j]? = some (.int .i64 xs[j])
theorem RowI.step {cs : Array Value} {xs : List Int} {k : Nat} (h : RowI cs xs k) (hk : k < xs.length) : RowI (cs.setIfInBounds k (.int .i64 xs[k])) xs (k + 1) := by
  have hz := h.1
  refine ⟨by simpa using hz, fun j hj hjk => ?_⟩
  simp only [Array.getElem?_setIfInBounds]
  by_cases hjk' : j = k
  · subst hjk'
    rw [if_pos rfl, if_pos (by omega)]
  · rw [if_neg (by omega)]
    exact h.2 j hj (by omega)
/-- The marks of n numbers. -/
def imarks (n : Nat) : List Int := (List.range n).map fun (j : Nat) => 1 + (j : Int)
theorem imarks_length (n : Nat) : (imarks n).length = n := by simp [imarks]
theorem imarks_get (n j : Nat) (h : j < (imarks n).length) : (imarks n)[j] = 1 + (j : Int) := by simp [imarks]
def MarkI (cs : Array Value) (k : Nat) : Prop := ∀ j, j < k → cs[j]? = some (.int .i64 (1 + (j : Int)))
theorem MarkI.step {cs : Array Value} {k : Nat} (h : MarkI cs k) (hz : k < cs.size) : MarkI (cs.setIfInBounds k (.int .i64 (1 + (k : Int)))) (k + 1) := fun j hj => by
  simp only [Array.getElem?_setIfInBounds]
  by_cases hjk : j = k
  · subst hjk
    rw [if_pos rfl, if_pos (by omega)]
  · rw [if_neg (by omega)]
    exact h j (by omega)
theorem try_infoI : (Try.prog.info? 3).map (fun i => (i.zero, i.size, i.bytes)) = some (some (.int .i64 0), 1, 8) := by kernel_rfl

set_option maxRecDepth 100000 in
set_option maxHeartbeats 2000000 in
theorem laws_toIntS (A : Option Addr) (c : Nat) (xs : List Int) (w : World) (hr : IR w w.heap.size A xs) (hz : xs.length ≤ 1048576) :
    Calls Try.prog 22 #[.slice A xs.length c] w fun e w' => ∃ g, e = .returned (.slice (some ⟨g, 0, none⟩) xs.length xs.length) ∧ OwnI w' w.heap.size (some ⟨g, 0, none⟩) xs ∧ Below w.heap.size w w' := by
  obtain ⟨i0, hi0, hz0, hz1, hz2⟩ := info_parts try_infoI
  go_enter Try.func22, Try.ntmps22
  go_wp2_with (at_make; refine wpList_make_full _ rfl (.tmp 6) (.tmp 6) 38 rfl w.heap.size 3 i0 (.int .i64 0) 1 Try.underlying38 hi0 hz0 hz1 .i64 .i64 _ _ xs.length rfl rfl rfl rfl (by rw [hz2]; omega) (by simp only [maxLen]; omega) (Nat.le_refl _) ?_; intro w1 hown1 hgrow1)
  have hb1 : Below w.heap.size w w1 := (Below.refl _ _).grown hgrow1 (Nat.le_refl _) (by simp)
  obtain ⟨cs0, hblk, hsz⟩ := blk_of_make hown1
  clear hown1 hgrow1
  go_loopw [4] (fun i wr => ∃ (k : Nat) (cs : Array Value), k ≤ xs.length ∧ i = .int .i64 k ∧ Blk wr w.heap.size 3 cs ∧ RowI cs xs k ∧ Below w.heap.size w wr) (fun i _ => xs.length - (intOf i).toNat)
  case atStart => exact ⟨0, cs0, Nat.zero_le _, rfl, hblk, ⟨by rw [hsz]; omega, fun j _ h => absurd h (by omega)⟩, hb1⟩
  case round =>
    obtain ⟨k, cs, hk, rfl, hB, hR, hbw⟩ := hrel
    by_cases hlt : k < xs.length
    · obtain ⟨pg, po, rfl, hpg, hpc⟩ := hr (by omega)
      have HRS := hide (hR.step hlt)
      obtain ⟨px, hpx⟩ : ∃ x, x = xs[k] := ⟨_, rfl⟩
      have x0 := (hbw.cell (p := ⟨pg, po + k, none⟩) hpg).trans (hpc k hlt)
      rw [← hpx] at x0 HRS
      have hcz := hR.1
      have y0 : wr.cell? ⟨w.heap.size, k, none⟩ = some cs[k] := (hB.cell _).trans (Array.getElem?_eq_getElem (by omega))
      have f0 := hB.frozen k
      clear hpx hpc hpg hR
      go_wp2_with fail
      go_roundw
      case rel => exact ⟨k + 1, _, by omega, by go_num, hB.set_ _ _, HRS.out, hbw.setCell (p := ⟨w.heap.size, k, none⟩) (Nat.le_refl _) _⟩
      case measure => simp [intOf]; omega
    · obtain rfl : k = xs.length := by omega
      go_wp2_with fail
      go_ret
      exact ⟨_, rfl, .inr ⟨_, cs, rfl, Nat.le_refl _, hB, by rw [hR.1]; exact Nat.le_refl _, fun j hj => hR.2 j hj hj⟩, hbw⟩

set_option maxRecDepth 100000 in
set_option maxHeartbeats 2000000 in
theorem laws_eqIntS (A A' : Option Addr) (c c' : Nat) (xs : List Int) (w : World) (hr : IR w w.heap.size A xs) (hr' : IR w w.heap.size A' xs) (hz : xs.length ≤ 1048577) :
    Calls Try.prog 24 #[.slice A xs.length c, .slice A' xs.length c'] w fun e w' => e = .returned (.bool true) ∧ Below w.heap.size w w' := by
  go_enter Try.func24, Try.ntmps24
  go_wp2_with fail
  go_loopw [5] (fun i wr => ∃ k : Nat, k ≤ xs.length ∧ i = .int .i64 k ∧ Below w.heap.size w wr) (fun i _ => xs.length - (intOf i).toNat)
  case atStart => exact ⟨0, Nat.zero_le _, rfl, Below.refl _ _⟩
  case round =>
    obtain ⟨k, hk, rfl, hbw⟩ := hrel
    by_cases hlt : k < xs.length
    · obtain ⟨pg, po, rfl, hpg, hpc⟩ := hr (by omega)
      obtain ⟨qg, qo, rfl, hqg, hqc⟩ := hr' (by omega)
      obtain ⟨px, hpx⟩ : ∃ x, x = xs[k] := ⟨_, rfl⟩
      have x0 := (hbw.cell (p := ⟨pg, po + k, none⟩) hpg).trans (hpc k hlt)
      have y0 := (hbw.cell (p := ⟨qg, qo + k, none⟩) hqg).trans (hqc k hlt)
      rw [← hpx] at x0 y0
      have s0 : Below w.heap.size w wr.drew ∧ wr.drew.cell? ⟨pg, po + k, none⟩ = some (.int .i64 px) ∧ wr.drew.cell? ⟨qg, qo + k, none⟩ = some (.int .i64 px) := ⟨hbw.drew, x0, y0⟩
      have i0 : (0 : Int) ≤ (k : Int) := Int.natCast_nonneg _
      have i1 : (k : Int) < (xs.length : Int) := by omega
      clear hpx hpc hqc hpg hqg x0 y0 hbw
      go_wp2_with fail
      refine wp_region_held_drew (S := (fun W => Below w.heap.size w W ∧ W.cell? ⟨pg, po + k, none⟩ = some (.int .i64 px) ∧ W.cell? ⟨qg, qo + k, none⟩ = some (.int .i64 px))) (by kernel_rfl) (by first | assumption | exact s0 | exact keep2 (by assumption) (by assumption)) (fun hHeld => ?_)
      refine wpAnyH_take (i := 0) (oi := { dst := some 17, op := Op.move (Operand.tmp 0), type := 38, pos := "exact.go:259", after := #[], guard := none }) (v := ?_) rfl (by kernel_rfl) (by kernel_rfl) (by kernel_rfl) (fun _ _ _ h => h) (Or.inl ⟨by rfl, ?_⟩) (by assumption) ?_; rotate_left
      · intro W hW; (try dsimp only at hW); go_simp;  try (with_reducible rfl)
      try simp only [Act.put, List.setIfInBounds_toArray, List.set_cons_zero, List.set_cons_succ]
      refine wpAnyH_take (i := 1) (oi := { dst := some 18, op := Op.move (Operand.tmp 5), type := 3, pos := "exact.go:259", after := #[], guard := none }) (v := ?_) rfl (by kernel_rfl) (by kernel_rfl) (by kernel_rfl) (fun _ _ _ h => h) (Or.inl ⟨by rfl, ?_⟩) (by assumption) ?_; rotate_left
      · intro W hW; (try dsimp only at hW); go_simp;  try (with_reducible rfl)
      try simp only [Act.put, List.setIfInBounds_toArray, List.set_cons_zero, List.set_cons_succ]
      refine wpAnyH_take (i := 2) (oi := { dst := some 19, op := Op.indexAddr 38 (Operand.tmp 17) (Operand.tmp 18), type := 0, pos := "exact.go:259", after := #[{ on := 0, ground := Ground.data }, { on := 1, ground := Ground.data }], guard := none }) (v := ?_) rfl (by kernel_rfl) (by kernel_rfl) (by kernel_rfl) (fun _ _ _ h => h) (Or.inl ⟨by rfl, ?_⟩) (by assumption) ?_; rotate_left
      · intro W hW; (try dsimp only at hW); go_simp;  try (with_reducible rfl)
      try simp only [Act.put, List.setIfInBounds_toArray, List.set_cons_zero, List.set_cons_succ]
      refine wpAnyH_take (i := 3) (oi := { dst := some 20, op := Op.load 3 (Operand.tmp 19), type := 3, pos := "exact.go:259", after := #[{ on := 2, ground := Ground.data }], guard := none }) (v := ?_) rfl (by kernel_rfl) (by kernel_rfl) (by kernel_rfl) (fun _ _ _ h => h) (Or.inl ⟨by rfl, ?_⟩) (by assumption) ?_; rotate_left
      · intro W hW; (try dsimp only at hW); go_simp;  try (with_reducible rfl)
      try simp only [Act.put, List.setIfInBounds_toArray, List.set_cons_zero, List.set_cons_succ]
      refine wpAnyH_take (i := 4) (oi := { dst := some 21, op := Op.move (Operand.tmp 1), type := 38, pos := "exact.go:259", after := #[], guard := none }) (v := ?_) rfl (by kernel_rfl) (by kernel_rfl) (by kernel_rfl) (fun _ _ _ h => h) (Or.inl ⟨by rfl, ?_⟩) (by assumption) ?_; rotate_left
      · intro W hW; (try dsimp only at hW); go_simp;  try (with_reducible rfl)
      try simp only [Act.put, List.setIfInBounds_toArray, List.set_cons_zero, List.set_cons_succ]
      refine wpAnyH_take (i := 5) (oi := { dst := some 22, op := Op.move (Operand.tmp 5), type := 3, pos := "exact.go:259", after := #[], guard := none }) (v := ?_) rfl (by kernel_rfl) (by kernel_rfl) (by kernel_rfl) (fun _ _ _ h => h) (Or.inl ⟨by rfl, ?_⟩) (by assumption) ?_; rotate_left
      · intro W hW; (try dsimp only at hW); go_simp;  try (with_reducible rfl)
      try simp only [Act.put, List.setIfInBounds_toArray, List.set_cons_zero, List.set_cons_succ]
      refine wpAnyH_take (i := 6) (oi := { dst := some 23, op := Op.indexAddr 38 (Operand.tmp 21) (Operand.tmp 22), type := 0, pos := "exact.go:259", after := #[{ on := 4, ground := Ground.data }, { on := 5, ground := Ground.data }], guard := none }) (v := ?_) rfl (by kernel_rfl) (by kernel_rfl) (by kernel_rfl) (fun _ _ _ h => h) (Or.inl ⟨by rfl, ?_⟩) (by assumption) ?_; rotate_left
      · intro W hW; (try dsimp only at hW); go_simp;  try (with_reducible rfl)
      try simp only [Act.put, List.setIfInBounds_toArray, List.set_cons_zero, List.set_cons_succ]
      refine wpAnyH_take (i := 7) (oi := { dst := some 24, op := Op.load 3 (Operand.tmp 23), type := 3, pos := "exact.go:259", after := #[{ on := 6, ground := Ground.data }], guard := none }) (v := ?_) rfl (by kernel_rfl) (by kernel_rfl) (by kernel_rfl) (fun _ _ _ h => h) (Or.inl ⟨by rfl, ?_⟩) (by assumption) ?_; rotate_left
      · intro W hW; (try dsimp only at hW); go_simp;  try (with_reducible rfl)
      try simp only [Act.put, List.setIfInBounds_toArray, List.set_cons_zero, List.set_cons_succ]
      refine wpAnyH_take (i := 8) (oi := { dst := some 25, op := Op.binOp BinOp.neq 3 (Operand.tmp 20) (Operand.tmp 24) 3, type := 4, pos := "exact.go:259", after := #[{ on := 3, ground := Ground.data }, { on := 7, ground := Ground.data }], guard := none }) (v := ?_) rfl (by kernel_rfl) (by kernel_rfl) (by kernel_rfl) (fun _ _ _ h => h) (Or.inl ⟨by rfl, ?_⟩) (by assumption) ?_; rotate_left
      · intro W hW; (try dsimp only at hW); go_simp;  try (with_reducible rfl)
      try simp only [Act.put, List.setIfInBounds_toArray, List.set_cons_zero, List.set_cons_succ]
      refine wpAnyH_done (by kernel_rfl) ?_ _
      go_wp2_with fail
      go_roundw
      case rel => exact ⟨k + 1, by omega, by go_num, hHeld.1⟩
      case measure => simp [intOf]; omega
    · obtain rfl : k = xs.length := by omega
      go_wp2_with fail
      go_ret
      exact ⟨rfl, hbw⟩

set_option maxRecDepth 100000 in
set_option maxHeartbeats 2000000 in
theorem laws_markIntS (A : Option Addr) (c : Nat) (xs : List Int) (k0 : Nat) (base : Nat) (w : World) (hr : OwnI w base A xs) (hz : xs.length ≤ 1048577) (hk0 : k0 ≤ 4000000) :
    Calls Try.prog 29 #[.slice A xs.length c, .int .i64 (1 + (k0 : Int))] w fun e w' => e = .returned (.int .i64 (1 + (k0 : Int) + (xs.length : Int))) ∧ (k0 = 0 → OwnI w' base A (imarks xs.length)) ∧ w.grownBy w' (blkOf A) := by
  rcases hr with rfl | ⟨g, cs0, rfl, hbg, hblk, hsz, _⟩
  · go_enter Try.func29, Try.ntmps29
    go_wp2_with fail
    go_loopw [1, 5] (fun kk i wr => kk = .int .i64 (1 + (k0 : Int)) ∧ i = .int .i64 0 ∧ w = wr) (fun _ _ _ => 0)
    case atStart => exact ⟨rfl, rfl, rfl⟩
    case round =>
      obtain ⟨rfl, rfl, rfl⟩ := hrel
      go_wp2_with fail
      go_ret
      exact ⟨ret_int (by simp), fun _ => .inl rfl, World.grownBy.refl _ _⟩
  · go_enter Try.func29, Try.ntmps29
    go_wp2_with fail
    go_loopw [1, 5] (fun kk i wr => ∃ (k : Nat) (cs : Array Value), k ≤ xs.length ∧ i = .int .i64 k ∧ kk = .int .i64 (1 + (k0 : Int) + (k : Int)) ∧ Blk wr g 3 cs ∧ xs.length ≤ cs.size ∧ (k0 = 0 → MarkI cs k) ∧ w.grownBy wr (some g)) (fun _ i _ => xs.length - (intOf i).toNat)
    case atStart => exact ⟨0, cs0, Nat.zero_le _, rfl, vintK (by omega), hblk, hsz, fun _ j h => absurd h (by omega), World.grownBy.refl _ _⟩
    case round =>
      obtain ⟨k, cs, hk, rfl, rfl, hB, hs, hM, hG⟩ := hrel
      by_cases hlt : k < xs.length
      · have HM : Hid (k0 = 0 → MarkI (cs.setIfInBounds k (.int .i64 (1 + (k0 : Int) + (k : Int)))) (k + 1)) := hide fun h0 => by
          have := (hM h0).step (by omega : k < cs.size)
          subst h0
          simpa using this
        have y0 : wr.cell? ⟨g, k, none⟩ = some cs[k] := (hB.cell _).trans (Array.getElem?_eq_getElem (by omega))
        have f0 := hB.frozen k
        clear hM
        go_wp2_with fail
        go_roundw
        case rel => exact ⟨k + 1, _, by omega, by go_num, vintK (by omega), hB.set_ _ _, by simpa using hs, HM.out, only_setCell hG (p := ⟨g, k, none⟩) (.inl rfl) _⟩
        case measure => simp [intOf]; omega
      · obtain rfl : k = xs.length := by omega
        go_wp2_with fail
        go_ret
        exact ⟨rfl, fun h0 => .inr ⟨g, cs, rfl, hbg, hB, by rw [imarks_length]; exact hs, fun j hj => by rw [imarks_get]; exact hM h0 j (by rw [imarks_length] at hj; exact hj)⟩, hG⟩

set_option maxRecDepth 100000 in
set_option maxHeartbeats 2000000 in
theorem laws_heldIntS (A : Option Addr) (n c : Nat) (w : World) (hr : IR w w.heap.size A (imarks n)) (hz : n ≤ 1048577) :
    Calls Try.prog 30 #[.slice A n c, .int .i64 1] w fun e w' => e = .returned (.int .i64 (1 + (n : Int))) ∧ w = w' := by
  go_enter Try.func30, Try.ntmps30
  go_wp2_with fail
  go_loop [1, 5] (fun kk i => ∃ k : Nat, k ≤ n ∧ i = .int .i64 k ∧ kk = .int .i64 (1 + (k : Int))) (fun _ i => n - (intOf i).toNat)
  case atStart => exact ⟨0, Nat.zero_le _, rfl, rfl⟩
  case round =>
    obtain ⟨k, hk, rfl, rfl⟩ := hrel
    by_cases hlt : k < n
    · obtain ⟨pg, po, rfl, hpg, hpc⟩ := hr (by rw [imarks_length]; omega)
      have x0 := hpc k (by rw [imarks_length]; exact hlt)
      rw [imarks_get] at x0
      clear hpc hpg
      go_wp2_with fail
      go_round
      case rel => exact ⟨k + 1, by omega, by go_num, vintK (by omega)⟩
      case measure => simp [intOf]; omega
    · obtain rfl : k = n := by omega
      go_wp2_with fail
      go_ret
      exact ⟨rfl, rfl⟩
end Go.Proofs.Ytegfcpdkehgdpaa

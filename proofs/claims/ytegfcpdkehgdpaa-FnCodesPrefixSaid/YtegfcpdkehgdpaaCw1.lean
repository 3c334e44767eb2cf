/- The walk of impl.walkCodes. Conditions: the cells of the pairs and of the codes lie below the call's own memory. -/
import Derived.Test.YtegfcpdkehgdpaaCx
import Derived.Test.YtegfcpdkehgdpaaRf
import Derived.Test.YtegfcpdkehgdpaaAf6
namespace Go.Proofs.Ytegfcpdkehgdpaa
open Go.RowKit

/-- One proof for all ways that end alike. -/
theorem share {α : Type} {P F : α → Prop} {R : Prop} (k : (∀ x, F x → P x) → R) (tail : ∀ x, F x → P x) : R := k tail
theorem reads_one (w : World) (t : TypeId) (u : Value) : Reads (w.alloc (.cells #[u] t)) (w.heap.size + 1) 1 (some ⟨w.heap.size, 0, none⟩) 1 [u] :=
  ⟨rfl, fun _ => ⟨_, rfl, Nat.lt_succ_self _, fun j v hv => by
    rcases j with _ | j
    · have hb : (w.alloc (.cells #[u] t)).cell? ⟨w.heap.size, 0, none⟩ = some u := (Blk.new w t #[u]).cell 0
      simp at hv
      subst hv
      exact hb
    · simp at hv⟩⟩
theorem own_drew {w : World} {base n size : Nat} {e : TypeId} {v : Value} {xs : List Value} (h : w.ownsRow base e size v n xs) : w.drew.ownsRow base e size v n xs := h
theorem own_nodup {w : World} {base n size : Nat} {e : TypeId} {v : Value} {xs : List Value} (h : w.ownsRow base e size v n xs) : w.ownsRow base e size v n xs := h
/-- What walking codes answers. -/
def WalkPost (o l m b t : Int) (ps : List (Int × Int)) (xs : List Int) (w : World) (e : Ending) (w' : World) : Prop :=
  ∃ A' c', e = .returned (.tuple #[.slice A' (Sx.cwW o l m b t ps xs).length c', .string (str (Sx.cwD o l m b t ps xs)), .bool (Sx.cwB o l m b t ps xs)]) ∧ OwnI w' w.heap.size A' (Sx.cwW o l m b t ps xs) ∧ Below w.heap.size w w'
theorem walk_ret (o l m b t : Int) (ps : List (Int × Int)) (xs : List Int) (w w' : World) {A : Option Addr} {n c : Nat} {u : ByteArray} {ok : Bool} {ws : List Int} {ds : List UInt8}
    (hR : Sx.cwR o l m b t ps xs = if ok = true then some (ws, ds) else none) (h0 : ok = false → ws = [] ∧ ds = []) (hn : n = ws.length) (hu : u = str ds) (hO : OwnI w' w.heap.size A ws) (hB : Below w.heap.size w w') :
    WalkPost o l m b t ps xs w (.returned (.tuple #[.slice A n c, .string u, .bool ok])) w' := by
  subst hn; subst hu
  unfold WalkPost
  cases ok
  · obtain ⟨rfl, rfl⟩ := h0 rfl
    obtain ⟨h1, h2, h3⟩ := Sx.cw_none hR
    rw [h1, h2, h3]
    exact ⟨A, c, rfl, hO, hB⟩
  · obtain ⟨h1, h2, h3⟩ := Sx.cw_some hR
    rw [h1, h2, h3]
    exact ⟨A, c, rfl, hO, hB⟩

set_option maxRecDepth 100000 in
set_option maxHeartbeats 8000000 in
theorem walk_bad (o l m : Int) (A : Option Addr) (c : Nat) (b t : Int) (ps : List (Int × Int)) (A2 : Option Addr) (c2 : Nat) (xs : List Int) (w : World) (hr : PR w w.heap.size A ps) (hz : ps.length ≤ 1048576) (_hr2 : IR w w.heap.size A2 xs) (_hz2 : xs.length ≤ 9223372036854775807) (hk : Sx.kOK o l m ps b t = false) :
    Calls Try.prog 71 #[kv o l m A ps.length c b t, .slice A2 xs.length c2] w (WalkPost o l m b t ps xs w) := by
  have B0 : Below w.heap.size w (w.alloc (.cells #[.int .i64 o, .int .i64 l, .int .i64 m, .slice A ps.length c, .int .i64 b, .int .i64 t] 31)) := (Below.refl _ _).alloc (Nat.le_refl _) _
  have K0 := Blk.new w 31 #[.int .i64 o, .int .i64 l, .int .i64 m, .slice A ps.length c, .int .i64 b, .int .i64 t]
  have CV := impl_KnownValid o l m A c b t ps (w.alloc (.cells #[.int .i64 o, .int .i64 l, .int .i64 m, .slice A ps.length c, .int .i64 b, .int .i64 t] 31)) (hr.keep B0.size B0) hz
  have a0 : (w.alloc (.cells #[.int .i64 o, .int .i64 l, .int .i64 m, .slice A ps.length c, .int .i64 b, .int .i64 t] 31)).cell? ⟨w.heap.size, 0, none⟩ = some (.int .i64 o) := K0.cell 0
  have a1 : (w.alloc (.cells #[.int .i64 o, .int .i64 l, .int .i64 m, .slice A ps.length c, .int .i64 b, .int .i64 t] 31)).cell? ⟨w.heap.size, 1, none⟩ = some (.int .i64 l) := K0.cell 1
  have a2 : (w.alloc (.cells #[.int .i64 o, .int .i64 l, .int .i64 m, .slice A ps.length c, .int .i64 b, .int .i64 t] 31)).cell? ⟨w.heap.size, 2, none⟩ = some (.int .i64 m) := K0.cell 2
  have a3 : (w.alloc (.cells #[.int .i64 o, .int .i64 l, .int .i64 m, .slice A ps.length c, .int .i64 b, .int .i64 t] 31)).cell? ⟨w.heap.size, 3, none⟩ = some (.slice A ps.length c) := K0.cell 3
  have a4 : (w.alloc (.cells #[.int .i64 o, .int .i64 l, .int .i64 m, .slice A ps.length c, .int .i64 b, .int .i64 t] 31)).cell? ⟨w.heap.size, 4, none⟩ = some (.int .i64 b) := K0.cell 4
  have a5 : (w.alloc (.cells #[.int .i64 o, .int .i64 l, .int .i64 m, .slice A ps.length c, .int .i64 b, .int .i64 t] 31)).cell? ⟨w.heap.size, 5, none⟩ = some (.int .i64 t) := K0.cell 5
  rw [hk] at CV
  have CV := hide CV
  have HR := hide (Sx.cwR_bad (xs := xs) (.inl hk))
  clear hk
  go_enter Try.func71, Try.ntmps71
  go_wp2_with fail
  refine (unhide CV).mono ?_; rintro e w1 ⟨rfl, hb1⟩
  have B1 := below_next (Nat.le_refl _) B0 hb1
  have K1 := K0.below hb1 K0.lt
  clear B0 K0 hb1 CV a0 a1 a2 a3 a4 a5
  go_wp2_with fail
  exact bodyPost_ret (v := .tuple #[.slice none 0 0, .string (str []), .bool false]) (by simp [results, Try.results71, go_sem]; try rfl) rfl (walk_ret o l m b t ps xs w _ (ok := false) (ws := []) (ds := []) HR.out (fun _ => ⟨rfl, rfl⟩) rfl rfl (.inl rfl) B1)

set_option maxRecDepth 100000 in
set_option maxHeartbeats 8000000 in
theorem walk_big (o l m : Int) (A : Option Addr) (c : Nat) (b t : Int) (ps : List (Int × Int)) (A2 : Option Addr) (c2 : Nat) (xs : List Int) (w : World) (hr : PR w w.heap.size A ps) (hz : ps.length ≤ 1048576) (_hr2 : IR w w.heap.size A2 xs) (hz2 : xs.length ≤ 9223372036854775807) (hk : Sx.kOK o l m ps b t = true) (hx : 3100 < xs.length) :
    Calls Try.prog 71 #[kv o l m A ps.length c b t, .slice A2 xs.length c2] w (WalkPost o l m b t ps xs w) := by
  have B0 : Below w.heap.size w (w.alloc (.cells #[.int .i64 o, .int .i64 l, .int .i64 m, .slice A ps.length c, .int .i64 b, .int .i64 t] 31)) := (Below.refl _ _).alloc (Nat.le_refl _) _
  have K0 := Blk.new w 31 #[.int .i64 o, .int .i64 l, .int .i64 m, .slice A ps.length c, .int .i64 b, .int .i64 t]
  have CV := impl_KnownValid o l m A c b t ps (w.alloc (.cells #[.int .i64 o, .int .i64 l, .int .i64 m, .slice A ps.length c, .int .i64 b, .int .i64 t] 31)) (hr.keep B0.size B0) hz
  have a0 : (w.alloc (.cells #[.int .i64 o, .int .i64 l, .int .i64 m, .slice A ps.length c, .int .i64 b, .int .i64 t] 31)).cell? ⟨w.heap.size, 0, none⟩ = some (.int .i64 o) := K0.cell 0
  have a1 : (w.alloc (.cells #[.int .i64 o, .int .i64 l, .int .i64 m, .slice A ps.length c, .int .i64 b, .int .i64 t] 31)).cell? ⟨w.heap.size, 1, none⟩ = some (.int .i64 l) := K0.cell 1
  have a2 : (w.alloc (.cells #[.int .i64 o, .int .i64 l, .int .i64 m, .slice A ps.length c, .int .i64 b, .int .i64 t] 31)).cell? ⟨w.heap.size, 2, none⟩ = some (.int .i64 m) := K0.cell 2
  have a3 : (w.alloc (.cells #[.int .i64 o, .int .i64 l, .int .i64 m, .slice A ps.length c, .int .i64 b, .int .i64 t] 31)).cell? ⟨w.heap.size, 3, none⟩ = some (.slice A ps.length c) := K0.cell 3
  have a4 : (w.alloc (.cells #[.int .i64 o, .int .i64 l, .int .i64 m, .slice A ps.length c, .int .i64 b, .int .i64 t] 31)).cell? ⟨w.heap.size, 4, none⟩ = some (.int .i64 b) := K0.cell 4
  have a5 : (w.alloc (.cells #[.int .i64 o, .int .i64 l, .int .i64 m, .slice A ps.length c, .int .i64 b, .int .i64 t] 31)).cell? ⟨w.heap.size, 5, none⟩ = some (.int .i64 t) := K0.cell 5
  rw [hk] at CV
  have CV := hide CV
  have HR := hide (Sx.cwR_bad (o := o) (l := l) (m := m) (b := b) (t := t) (ps := ps) (.inr hx))
  clear hk
  go_enter Try.func71, Try.ntmps71
  go_wp2_with fail
  refine (unhide CV).mono ?_; rintro e w1 ⟨rfl, hb1⟩
  have B1 := below_next (Nat.le_refl _) B0 hb1
  have K1 := K0.below hb1 K0.lt
  clear B0 K0 hb1 CV a0 a1 a2 a3 a4 a5
  go_wp2_with fail
  exact bodyPost_ret (v := .tuple #[.slice none 0 0, .string (str []), .bool false]) (by simp [results, Try.results71, go_sem]; try rfl) rfl (walk_ret o l m b t ps xs w _ (ok := false) (ws := []) (ds := []) HR.out (fun _ => ⟨rfl, rfl⟩) rfl rfl (.inl rfl) B1)

set_option maxRecDepth 100000 in
set_option maxHeartbeats 8000000 in
theorem walk_goes (o l m : Int) (A : Option Addr) (c : Nat) (b t : Int) (ps : List (Int × Int)) (A2 : Option Addr) (c2 : Nat) (xs : List Int) (w : World) (hr : PR w w.heap.size A ps) (hz : ps.length ≤ 1048576) (hr2 : IR w w.heap.size A2 xs) (hk : Sx.kOK o l m ps b t = true) (hx : xs.length ≤ 3100) :
    Calls Try.prog 71 #[kv o l m A ps.length c b t, .slice A2 xs.length c2] w (WalkPost o l m b t ps xs w) := by
  have B0 : Below w.heap.size w (w.alloc (.cells #[.int .i64 o, .int .i64 l, .int .i64 m, .slice A ps.length c, .int .i64 b, .int .i64 t] 31)) := (Below.refl _ _).alloc (Nat.le_refl _) _
  have K0 := Blk.new w 31 #[.int .i64 o, .int .i64 l, .int .i64 m, .slice A ps.length c, .int .i64 b, .int .i64 t]
  have CV := impl_KnownValid o l m A c b t ps (w.alloc (.cells #[.int .i64 o, .int .i64 l, .int .i64 m, .slice A ps.length c, .int .i64 b, .int .i64 t] 31)) (hr.keep B0.size B0) hz
  have a0 : (w.alloc (.cells #[.int .i64 o, .int .i64 l, .int .i64 m, .slice A ps.length c, .int .i64 b, .int .i64 t] 31)).cell? ⟨w.heap.size, 0, none⟩ = some (.int .i64 o) := K0.cell 0
  have a1 : (w.alloc (.cells #[.int .i64 o, .int .i64 l, .int .i64 m, .slice A ps.length c, .int .i64 b, .int .i64 t] 31)).cell? ⟨w.heap.size, 1, none⟩ = some (.int .i64 l) := K0.cell 1
  have a2 : (w.alloc (.cells #[.int .i64 o, .int .i64 l, .int .i64 m, .slice A ps.length c, .int .i64 b, .int .i64 t] 31)).cell? ⟨w.heap.size, 2, none⟩ = some (.int .i64 m) := K0.cell 2
  have a3 : (w.alloc (.cells #[.int .i64 o, .int .i64 l, .int .i64 m, .slice A ps.length c, .int .i64 b, .int .i64 t] 31)).cell? ⟨w.heap.size, 3, none⟩ = some (.slice A ps.length c) := K0.cell 3
  have a4 : (w.alloc (.cells #[.int .i64 o, .int .i64 l, .int .i64 m, .slice A ps.length c, .int .i64 b, .int .i64 t] 31)).cell? ⟨w.heap.size, 4, none⟩ = some (.int .i64 b) := K0.cell 4
  have a5 : (w.alloc (.cells #[.int .i64 o, .int .i64 l, .int .i64 m, .slice A ps.length c, .int .i64 b, .int .i64 t] 31)).cell? ⟨w.heap.size, 5, none⟩ = some (.int .i64 t) := K0.cell 5
  rw [hk] at CV
  have CV := hide CV
  obtain ⟨i0, hi0, hz0, hz1, hz3⟩ := info_parts try_infoI
  obtain ⟨j0, hj0, hy0, hy1, hy3⟩ := info_parts infoU8
  have h0 := (Sx.kOK_of hk).1
  obtain ⟨nb0, nb1⟩ := (Sx.kOK_of hk).2.2.1
  have HK0 := hide hk
  have HR0 := hide (Sx.cwR_ok hk hx)
  have CC := hide (fun wx => by have := impl_ClearCode o l m wx; rwa [Sx.clear_yes h0] at this)
  have CE := hide (fun wx => by have := impl_EndCode o l m wx; rwa [Sx.end_yes h0] at this)
  clear hk
  go_enter Try.func71, Try.ntmps71
  go_wp2_with fail
  refine (unhide CV).mono ?_; rintro e w1 ⟨rfl, hb1⟩
  have B1 := below_next (Nat.le_refl _) B0 hb1
  have K1 := K0.below hb1 K0.lt
  clear B0 K0 hb1 CV a0 a1 a2 a3 a4 a5
  have a0 : w1.cell? ⟨w.heap.size, 0, none⟩ = some (.int .i64 o) := K1.cell 0
  have a1 : w1.cell? ⟨w.heap.size, 1, none⟩ = some (.int .i64 l) := K1.cell 1
  have a2 : w1.cell? ⟨w.heap.size, 2, none⟩ = some (.int .i64 m) := K1.cell 2
  have a3 : w1.cell? ⟨w.heap.size, 3, none⟩ = some (.slice A ps.length c) := K1.cell 3
  have a4 : w1.cell? ⟨w.heap.size, 4, none⟩ = some (.int .i64 b) := K1.cell 4
  have a5 : w1.cell? ⟨w.heap.size, 5, none⟩ = some (.int .i64 t) := K1.cell 5
  have CP := hide (impl_copyKnown o l m A c b t ps w1 (hr.keep B1.size B1) (by omega))
  go_wp2_with fail
  refine (unhide CP).mono ?_; rintro e w2 ⟨A3, c3, rfl, P2, hb2⟩
  have P2 := own_base P2 (by have := B1.size; omega : w.heap.size ≤ w1.heap.size + 2)
  have B2 := below_next (Nat.le_refl _) B1 hb2
  have K2 := K1.below hb2 K1.lt
  clear B1 K1 hb2 CP a0 a1 a2 a3 a4 a5
  have a0 : w2.cell? ⟨w.heap.size, 0, none⟩ = some (.int .i64 o) := K2.cell 0
  have a1 : w2.cell? ⟨w.heap.size, 1, none⟩ = some (.int .i64 l) := K2.cell 1
  have a2 : w2.cell? ⟨w.heap.size, 2, none⟩ = some (.int .i64 m) := K2.cell 2
  have a3 : w2.cell? ⟨w.heap.size, 3, none⟩ = some (.slice A ps.length c) := K2.cell 3
  have a4 : w2.cell? ⟨w.heap.size, 4, none⟩ = some (.int .i64 b) := K2.cell 4
  have a5 : w2.cell? ⟨w.heap.size, 5, none⟩ = some (.int .i64 t) := K2.cell 5
  have fa0 := K2.frozen 0
  have fa1 := K2.frozen 1
  have fa2 := K2.frozen 2
  have fa3 := K2.frozen 3
  have fa4 := K2.frozen 4
  have fa5 := K2.frozen 5
  have K3 := blk6_set K2 (.int .i64 o) (.int .i64 l) (.int .i64 m) (.slice A3 ps.length c3) (.int .i64 b) (.int .i64 t)
  have P3 := P2.kept (only6 w2 w.heap.size (.int .i64 o) (.int .i64 l) (.int .i64 m) (.slice A3 ps.length c3) (.int .i64 b) (.int .i64 t)) (.inr (own_blk_ne P2 K2 (by decide)))
  have B3 := below_set6 (g := w.heap.size) B2 (Nat.le_refl _) (.int .i64 o) (.int .i64 l) (.int .i64 m) (.slice A3 ps.length c3) (.int .i64 b) (.int .i64 t)
  clear P2 B2
  go_wp2_with fail
  clear a0 a1 a2 a3 a4 a5 fa0 fa1 fa2 fa3 fa4 fa5 K2
  obtain ⟨W3, hW3⟩ : ∃ W, W = ((((((w2.setCell ⟨w.heap.size, 0, none⟩ (.int .i64 o)).setCell ⟨w.heap.size, 1, none⟩ (.int .i64 l)).setCell ⟨w.heap.size, 2, none⟩ (.int .i64 m)).setCell ⟨w.heap.size, 3, none⟩ (.slice A3 ps.length c3)).setCell ⟨w.heap.size, 4, none⟩ (.int .i64 b)).setCell ⟨w.heap.size, 5, none⟩ (.int .i64 t)) := ⟨_, rfl⟩
  rw [← hW3] at K3 P3 B3 ⊢
  clear hW3
  have s0 : Below w.heap.size w W3.drew ∧ W3.drew.cell? ⟨w.heap.size, 0, none⟩ = some (.int .i64 o) ∧ W3.drew.cell? ⟨w.heap.size, 1, none⟩ = some (.int .i64 l) ∧ W3.drew.cell? ⟨w.heap.size, 2, none⟩ = some (.int .i64 m) ∧ W3.drew.cell? ⟨w.heap.size, 3, none⟩ = some (.slice A3 ps.length c3) ∧ W3.drew.cell? ⟨w.heap.size, 4, none⟩ = some (.int .i64 b) ∧ W3.drew.cell? ⟨w.heap.size, 5, none⟩ = some (.int .i64 t) := ⟨B3.drew, K3.cell 0, K3.cell 1, K3.cell 2, K3.cell 3, K3.cell 4, K3.cell 5⟩
  refine share (F := fun W => Below W3.heap.size W3 W) (P := ?PP) (fun hshare => ?kk) ?tt
  case kk =>
    refine wp_region_held_drew (S := (fun W => Below W3.heap.size W3 W ∧ W.cell? ⟨w.heap.size, 0, none⟩ = some (.int .i64 o) ∧ W.cell? ⟨w.heap.size, 1, none⟩ = some (.int .i64 l) ∧ W.cell? ⟨w.heap.size, 2, none⟩ = some (.int .i64 m) ∧ W.cell? ⟨w.heap.size, 3, none⟩ = some (.slice A3 ps.length c3) ∧ W.cell? ⟨w.heap.size, 4, none⟩ = some (.int .i64 b) ∧ W.cell? ⟨w.heap.size, 5, none⟩ = some (.int .i64 t))) (by kernel_rfl) (by first | assumption | exact ⟨(Below.refl _ _).drew, K3.cell 0, K3.cell 1, K3.cell 2, K3.cell 3, K3.cell 4, K3.cell 5⟩ | exact keep6 (by assumption) (by assumption)) (fun hHeld => ?_)
    refine wpAnyH_take (i := 0) (oi := { dst := some 24, op := Op.fieldAddr 31 (Operand.tmp 2) 0, type := 0, pos := "l2_words.go:195", after := #[], guard := none }) (v := ?_) rfl (by kernel_rfl) (by kernel_rfl) (by kernel_rfl) (fun _ _ _ h => h) (Or.inl ⟨by rfl, ?_⟩) (by assumption) ?_; rotate_left
    · intro W hW; (try dsimp only at hW); go_simp;  try (with_reducible rfl)
    try simp only [Act.put, List.setIfInBounds_toArray, List.set_cons_zero, List.set_cons_succ]
    refine wpAnyH_take (i := 1) (oi := { dst := some 25, op := Op.load 28 (Operand.tmp 24), type := 28, pos := "l2_words.go:195", after := #[{ on := 0, ground := Ground.data }], guard := none }) (v := ?_) rfl (by kernel_rfl) (by kernel_rfl) (by kernel_rfl) (fun _ _ _ h => h) (Or.inl ⟨by rfl, ?_⟩) (by assumption) ?_; rotate_left
    · intro W hW; (try dsimp only at hW); go_simp;  try (with_reducible rfl)
    try simp only [Act.put, List.setIfInBounds_toArray, List.set_cons_zero, List.set_cons_succ]
    refine wpAnyH_take (i := 3) (oi := { dst := some 27, op := Op.fieldAddr 31 (Operand.tmp 2) 0, type := 0, pos := "l2_words.go:195", after := #[], guard := none }) (v := ?_) rfl (by kernel_rfl) (by kernel_rfl) (by kernel_rfl) (fun _ _ _ h => h) (Or.inl ⟨by rfl, ?_⟩) (by assumption) ?_; rotate_left
    · intro W hW; (try dsimp only at hW); go_simp;  try (with_reducible rfl)
    try simp only [Act.put, List.setIfInBounds_toArray, List.set_cons_zero, List.set_cons_succ]
    refine wpAnyH_take (i := 4) (oi := { dst := some 28, op := Op.load 28 (Operand.tmp 27), type := 28, pos := "l2_words.go:195", after := #[{ on := 3, ground := Ground.data }], guard := none }) (v := ?_) rfl (by kernel_rfl) (by kernel_rfl) (by kernel_rfl) (fun _ _ _ h => h) (Or.inl ⟨by rfl, ?_⟩) (by assumption) ?_; rotate_left
    · intro W hW; (try dsimp only at hW); go_simp;  try (with_reducible rfl)
    try simp only [Act.put, List.setIfInBounds_toArray, List.set_cons_zero, List.set_cons_succ]
    refine wpAnyH_ready (rs := [2]) (by kernel_rfl) (by simp) (AllReadyH.cons (i := 2) (o := { dst := some 26, op := Op.call { callee := Callee.value (Operand.func 47), args := #[Operand.tmp 25], argTypes := #[28] }, type := 3, pos := "l2_words.go:195", after := #[{ on := 1, ground := Ground.data }], guard := none }) rfl (fun K hK => ?_) AllReadyH.nil)
    go_simp
    refine ((unhide CC) _).mono ?_; rintro e w' ⟨rfl, hb⟩
    try go_wp2_with fail
    refine hK.out _ _ (by (try dsimp only); first | assumption | exact ⟨(Below.refl _ _).drew, K3.cell 0, K3.cell 1, K3.cell 2, K3.cell 3, K3.cell 4, K3.cell 5⟩ | exact keep6 (by assumption) (by assumption)) (fun hHeld => ?_)
    clear hK K
    try simp only [Act.put, List.setIfInBounds_toArray, List.set_cons_zero, List.set_cons_succ]
    refine wpAnyH_ready (rs := [5]) (by kernel_rfl) (by simp) (AllReadyH.cons (i := 5) (o := { dst := some 29, op := Op.call { callee := Callee.value (Operand.func 34), args := #[Operand.tmp 28], argTypes := #[28] }, type := 3, pos := "l2_words.go:195", after := #[{ on := 4, ground := Ground.data }, { on := 2, ground := Ground.chain }], guard := none }) rfl (fun K hK => ?_) AllReadyH.nil)
    go_simp
    refine ((unhide CE) _).mono ?_; rintro e w' ⟨rfl, hb⟩
    try go_wp2_with fail
    refine hK.out _ _ (by (try dsimp only); first | assumption | exact ⟨(Below.refl _ _).drew, K3.cell 0, K3.cell 1, K3.cell 2, K3.cell 3, K3.cell 4, K3.cell 5⟩ | exact keep6 (by assumption) (by assumption)) (fun hHeld => ?_)
    clear hK K
    try simp only [Act.put, List.setIfInBounds_toArray, List.set_cons_zero, List.set_cons_succ]
    refine wpAnyH_take (i := 6) (oi := { dst := some 7, op := Op.assign (Operand.tmp 26), type := 3, pos := "l2_words.go:195", after := #[{ on := 2, ground := Ground.data }, { on := 5, ground := Ground.chain }, { on := 0, ground := Ground.phase }, { on := 1, ground := Ground.phase }, { on := 2, ground := Ground.phase }, { on := 3, ground := Ground.textOnly Departure.lateStores }, { on := 4, ground := Ground.textOnly Departure.lateStores }, { on := 5, ground := Ground.textOnly Departure.lateStoresUnsure }], guard := none }) (v := ?_) rfl (by kernel_rfl) (by kernel_rfl) (by kernel_rfl) (fun _ _ _ h => h) (Or.inl ⟨by rfl, ?_⟩) (by assumption) ?_; rotate_left
    · intro W hW; (try dsimp only at hW); go_simp;  try (with_reducible rfl)
    try simp only [Act.put, List.setIfInBounds_toArray, List.set_cons_zero, List.set_cons_succ]
    refine wpAnyH_take (i := 7) (oi := { dst := some 8, op := Op.assign (Operand.tmp 29), type := 3, pos := "l2_words.go:195", after := #[{ on := 5, ground := Ground.data }, { on := 6, ground := Ground.chain }, { on := 0, ground := Ground.phase }, { on := 1, ground := Ground.phase }, { on := 2, ground := Ground.phase }, { on := 3, ground := Ground.phase }, { on := 4, ground := Ground.phase }, { on := 5, ground := Ground.phase }, { on := 6, ground := Ground.phase }], guard := none }) (v := ?_) rfl (by kernel_rfl) (by kernel_rfl) (by kernel_rfl) (fun _ _ _ h => h) (Or.inl ⟨by rfl, ?_⟩) (by assumption) ?_; rotate_left
    · intro W hW; (try dsimp only at hW); go_simp;  try (with_reducible rfl)
    try simp only [Act.put, List.setIfInBounds_toArray, List.set_cons_zero, List.set_cons_succ]
    refine wpAnyH_done (by kernel_rfl) ?_ _
    exact hshare _ hHeld.1
  case tt =>
    intro W4 hb4
    have P4 := own_below P3 hb4
    have K4 := K3.below hb4 K3.lt
    have B4 := below_next (Nat.le_refl _) B3 hb4
    clear P3 K3 B3 hb4 s0 CC CE
    go_wp2_with fail
    go_loopw [9, 10, 32] (fun s9 s10 s32 wr => ∃ (k : Nat) (ws : List Int) (ds : List UInt8) (P : List (Int × Int)) (t' : Int) (Aw Ad A' : Option Addr) (cw cd c' : Nat), k ≤ xs.length ∧ s32 = .int .i64 k ∧ s9 = .slice Aw ws.length cw ∧ s10 = .slice Ad ds.length cd ∧ Hid (ws.length = k) ∧ ds.length ≤ 2000 ∧ wr.ownsRow w.heap.size 3 1 (.slice Aw ws.length cw) ws.length (ivals ws) ∧ wr.ownsRow w.heap.size 5 1 (.slice Ad ds.length cd) ds.length (bvals ds) ∧ wr.ownsRow w.heap.size 63 2 (.slice A' P.length c') P.length (pvals P) ∧ Blk wr w.heap.size 31 #[.int .i64 o, .int .i64 l, .int .i64 m, .slice A' P.length c', .int .i64 b, .int .i64 t'] ∧ Below w.heap.size w wr ∧ Hid (Sx.kOK o l m P b t' = true) ∧ Hid (Sx.cwR o l m b t ps xs = Sx.wkAcc ws ds (Sx.wk l m b (xs.drop k) P t' ds.length))) (fun _ _ s32 _ => xs.length - (intOf s32).toNat)
    case atStart => exact ⟨0, [], [], ps, t, none, none, A3, 0, 0, c3, Nat.zero_le _, rfl, rfl, rfl, rfl, by simp, World.ownsRow_nil _ _ _ _, World.ownsRow_nil _ _ _ _, P4, K4, B4, HK0, HR0⟩
    case round =>
      obtain ⟨k, ws, ds, P, t', Aw, Ad, A', cw, cd, c', hk, rfl, rfl, rfl, hwl, hdl, W5, D5, P5, K5, B5, HK, HR⟩ := hrel
      clear P4 K4 B4 HR0 HK0
      have hwk : ws.length ≤ 3100 := by have := hwl.out; omega
      obtain ⟨n0, n1, n2, n3, n4, n5⟩ := Sx.kOK_nums HK.out
      have h3 := (Sx.kOK_of HK.out).2.2.2.1
      obtain ⟨hb0, hb1⟩ := (Sx.kOK_of HK.out).2.2.1
      by_cases hlt : k < xs.length
      · obtain ⟨pg, po, rfl, hpg, hpc⟩ := hr2 (by omega)
        obtain ⟨x, hx'⟩ : ∃ x, x = xs[k] := ⟨_, rfl⟩
        have x0 := (B5.cell (p := ⟨pg, po + k, none⟩) hpg).trans (hpc k hlt)
        rw [← hx'] at x0
        have HX := hide hx'
        clear hpc hpg hx'
        have a0 : wr.cell? ⟨w.heap.size, 0, none⟩ = some (.int .i64 o) := K5.cell 0
        have a1 : wr.cell? ⟨w.heap.size, 1, none⟩ = some (.int .i64 l) := K5.cell 1
        have a2 : wr.cell? ⟨w.heap.size, 2, none⟩ = some (.int .i64 m) := K5.cell 2
        have a3 : wr.cell? ⟨w.heap.size, 3, none⟩ = some (.slice A' P.length c') := K5.cell 3
        have a4 : wr.cell? ⟨w.heap.size, 4, none⟩ = some (.int .i64 b) := K5.cell 4
        have a5 : wr.cell? ⟨w.heap.size, 5, none⟩ = some (.int .i64 t') := K5.cell 5
        rcases hf : Sx.folB l m P.length t' x with _ | _
        · skip
          obtain ⟨hx1, hg⟩ := Sx.fol_no hf
          have CF := hide (fun wx => by have := impl_canFollow o l m A' c' b t' x P wx h0 n4 n5; rwa [hf] at this)
          have HN := hide (Sx.acc_bad HR.out hlt HX.out hx1 hg)
          clear hf hx1 hg HR
          go_wp2_with fail
          refine ((unhide CF) _).mono ?_; rintro e w6 ⟨rfl, hb6⟩
          have W6 := own_below W5 hb6
          have D6 := own_below D5 hb6
          have P6 := own_below P5 hb6
          have K6 := K5.below hb6 K5.lt
          have B6 := below_next (Nat.le_refl _) B5 hb6
          clear W5 D5 P5 K5 B5 hb6 CF a0 a1 a2 a3 a4 a5
          have a0 : w6.cell? ⟨w.heap.size, 0, none⟩ = some (.int .i64 o) := K6.cell 0
          have a1 : w6.cell? ⟨w.heap.size, 1, none⟩ = some (.int .i64 l) := K6.cell 1
          have a2 : w6.cell? ⟨w.heap.size, 2, none⟩ = some (.int .i64 m) := K6.cell 2
          have a3 : w6.cell? ⟨w.heap.size, 3, none⟩ = some (.slice A' P.length c') := K6.cell 3
          have a4 : w6.cell? ⟨w.heap.size, 4, none⟩ = some (.int .i64 b) := K6.cell 4
          have a5 : w6.cell? ⟨w.heap.size, 5, none⟩ = some (.int .i64 t') := K6.cell 5
          go_wp2_with fail
          exact bodyPost_ret (v := .tuple #[.slice none 0 0, .string (str []), .bool false]) (by simp [results, Try.results71, go_sem]; try rfl) rfl (walk_ret o l m b t ps xs w _ (ok := false) (ws := []) (ds := []) HN.out (fun _ => ⟨rfl, rfl⟩) rfl rfl (.inl rfl) B6)
        · have CF := hide (fun wx => by have := impl_canFollow o l m A' c' b t' x P wx h0 n4 n5; rwa [hf] at this)
          by_cases hx1 : x = Sx.two l + 1
          · by_cases hl : k + 1 < xs.length
            · skip
              have HN := hide (Sx.acc_more HR.out hl HX.out hx1)
              have ee : (x == Sx.two l + 1) = true := by rw [beq_iff_eq]; exact hx1
              have hl' : (k : Int) < (xs.length : Int) - 1 := by omega
              have e1 : IntKind.i64.wrap ((xs.length : Int) - 1) = (xs.length : Int) - 1 := IntWalk.i64_in _ (by omega)
              clear hf hx1 HR
              go_wp2_with fail
              refine ((unhide CF) _).mono ?_; rintro e w6 ⟨rfl, hb6⟩
              have W6 := own_below W5 hb6
              have D6 := own_below D5 hb6
              have P6 := own_below P5 hb6
              have K6 := K5.below hb6 K5.lt
              have B6 := below_next (Nat.le_refl _) B5 hb6
              clear W5 D5 P5 K5 B5 hb6 CF a0 a1 a2 a3 a4 a5
              have a0 : w6.cell? ⟨w.heap.size, 0, none⟩ = some (.int .i64 o) := K6.cell 0
              have a1 : w6.cell? ⟨w.heap.size, 1, none⟩ = some (.int .i64 l) := K6.cell 1
              have a2 : w6.cell? ⟨w.heap.size, 2, none⟩ = some (.int .i64 m) := K6.cell 2
              have a3 : w6.cell? ⟨w.heap.size, 3, none⟩ = some (.slice A' P.length c') := K6.cell 3
              have a4 : w6.cell? ⟨w.heap.size, 4, none⟩ = some (.int .i64 b) := K6.cell 4
              have a5 : w6.cell? ⟨w.heap.size, 5, none⟩ = some (.int .i64 t') := K6.cell 5
              go_wp2_with fail
              exact bodyPost_ret (v := .tuple #[.slice none 0 0, .string (str []), .bool false]) (by simp [results, Try.results71, go_sem]; try rfl) rfl (walk_ret o l m b t ps xs w _ (ok := false) (ws := []) (ds := []) HN.out (fun _ => ⟨rfl, rfl⟩) rfl rfl (.inl rfl) B6)
            · skip
              obtain ⟨V, hV⟩ : ∃ V, V = Sx.widthI l m P.length t' := ⟨_, rfl⟩
              have CW := hide (fun wx => by have := impl_width o l m A' P.length c' b t' wx h0 (by omega) n5; rwa [← hV] at this)
              have hw1 : (ws ++ [V]).length = ws.length + 1 := by simp
              have HN := (Sx.acc_last HR.out (by omega) HX.out hx1).2
              rw [← hV] at HN
              have HN := hide HN
              have ee : (x == Sx.two l + 1) = true := by rw [beq_iff_eq]; exact hx1
              have hl' : ¬ (k : Int) < (xs.length : Int) - 1 := by omega
              have e1 : IntKind.i64.wrap ((xs.length : Int) - 1) = (xs.length : Int) - 1 := IntWalk.i64_in _ (by omega)
              clear hf hx1 HR hV
              go_wp2_with fail
              refine ((unhide CF) _).mono ?_; rintro e w6 ⟨rfl, hb6⟩
              have W6 := own_below W5 hb6
              have D6 := own_below D5 hb6
              have P6 := own_below P5 hb6
              have K6 := K5.below hb6 K5.lt
              have B6 := below_next (Nat.le_refl _) B5 hb6
              clear W5 D5 P5 K5 B5 hb6 CF a0 a1 a2 a3 a4 a5
              have a0 : w6.cell? ⟨w.heap.size, 0, none⟩ = some (.int .i64 o) := K6.cell 0
              have a1 : w6.cell? ⟨w.heap.size, 1, none⟩ = some (.int .i64 l) := K6.cell 1
              have a2 : w6.cell? ⟨w.heap.size, 2, none⟩ = some (.int .i64 m) := K6.cell 2
              have a3 : w6.cell? ⟨w.heap.size, 3, none⟩ = some (.slice A' P.length c') := K6.cell 3
              have a4 : w6.cell? ⟨w.heap.size, 4, none⟩ = some (.int .i64 b) := K6.cell 4
              have a5 : w6.cell? ⟨w.heap.size, 5, none⟩ = some (.int .i64 t') := K6.cell 5
              go_wp2_with fail
              refine ((unhide CW) _).mono ?_; rintro e w7 ⟨rfl, hb7⟩
              have W7 := own_below W6 hb7
              have D7 := own_below D6 hb7
              have P7 := own_below P6 hb7
              have K7 := K6.below hb7 K6.lt
              have B7 := below_next (Nat.le_refl _) B6 hb7
              clear W6 D6 P6 K6 B6 hb7 CW a0 a1 a2 a3 a4 a5
              have a0 : w7.cell? ⟨w.heap.size, 0, none⟩ = some (.int .i64 o) := K7.cell 0
              have a1 : w7.cell? ⟨w.heap.size, 1, none⟩ = some (.int .i64 l) := K7.cell 1
              have a2 : w7.cell? ⟨w.heap.size, 2, none⟩ = some (.int .i64 m) := K7.cell 2
              have a3 : w7.cell? ⟨w.heap.size, 3, none⟩ = some (.slice A' P.length c') := K7.cell 3
              have a4 : w7.cell? ⟨w.heap.size, 4, none⟩ = some (.int .i64 b) := K7.cell 4
              have a5 : w7.cell? ⟨w.heap.size, 5, none⟩ = some (.int .i64 t') := K7.cell 5
              go_wp2_with (at_builtin; refine wpList_append_any _ rfl _ _ _ rfl w.heap.size 3 i0 (.int .i64 0) 1 8 Try.underlying38 hi0 hz0 hz1 hz3 (by rfl) (by decide) (.slice Aw ws.length cw) ws.length (ivals ws) rfl (W7.alloc _) _ _ 1 1 [.int .i64 V] rfl (reads_one _ _ _) (by simp [Value.oneCell']) (by simp only [maxLen]; omega) (by omega) (by have := B7.size; simp; omega) ?_; intro v' w9 hown9 hg9 _; have W8 := W7.alloc (.cells #[.int .i64 V] 3); have D9 := own_other (D7.alloc (.cells #[.int .i64 V] 3)) W8 hg9 (by decide); have P9 := own_other (P7.alloc (.cells #[.int .i64 V] 3)) W8 hg9 (by decide); have K9 := blk_other (K7.alloc (.cells #[.int .i64 V] 3)) W8 hg9 (by decide); have B9 := (B7.alloc B7.size (.cells #[.int .i64 V] 3)).grown hg9 (by have := B7.size; simp; omega) (fun g hgg => (W8.lt g hgg).1); have W9 := own_nodup hown9; obtain ⟨Aw2, cw2, rfl⟩ := own_shapeN W9; clear W8 hown9 hg9 a0 a1 a2 a3 a4 a5; clear W7 D7 P7 K7 B7; have a0 : w9.cell? ⟨w.heap.size, 0, none⟩ = some (.int .i64 o) := K9.cell 0; have a1 : w9.cell? ⟨w.heap.size, 1, none⟩ = some (.int .i64 l) := K9.cell 1; have a2 : w9.cell? ⟨w.heap.size, 2, none⟩ = some (.int .i64 m) := K9.cell 2; have a3 : w9.cell? ⟨w.heap.size, 3, none⟩ = some (.slice A' P.length c') := K9.cell 3; have a4 : w9.cell? ⟨w.heap.size, 4, none⟩ = some (.int .i64 b) := K9.cell 4; have a5 : w9.cell? ⟨w.heap.size, 5, none⟩ = some (.int .i64 t') := K9.cell 5)
              go_roundw
              case rel => exact ⟨k + 1, ws ++ [V], ds, P, t', Aw2, Ad, A', cw2, cd, c', by omega, by go_num, by rw [hw1], rfl, hide (by rw [hw1, hwl.out]), hdl, by rw [hw1]; exact own_ints W9, D9, P9, K9, B9, HK, HN⟩
              case measure => simp [intOf]; omega
          · have hgo := Sx.fol_go hf hx1
            by_cases hx2 : x = Sx.two l
            · skip
              obtain ⟨V, hV⟩ : ∃ V, V = Sx.widthI l m P.length t' := ⟨_, rfl⟩
              have CW := hide (fun wx => by have := impl_width o l m A' P.length c' b t' wx h0 (by omega) n5; rwa [← hV] at this)
              have hw1 : (ws ++ [V]).length = ws.length + 1 := by simp
              have HN := Sx.acc_go HR.out hlt HX.out hx1 hgo (by rw [Sx.wd_clear hx2]; simpa using hdl)
              rw [Sx.wd_clear hx2, List.append_nil] at HN
              have HS := Sx.step_clear (m := m) (b := b) (t := t') (ps := P) 0 hx2
              have ee : (x == Sx.two l + 1) = false := by rw [beq_eq_false_iff_ne]; exact hx1
              have ec : (x == Sx.two l) = true := by rw [beq_iff_eq]; exact hx2
              obtain ⟨P2, hP2⟩ : ∃ P2, P2 = Sx.stepP l m P b t' x := ⟨_, rfl⟩
              obtain ⟨t2, hT2⟩ : ∃ t2, t2 = Sx.advT l x := ⟨_, rfl⟩
              have HK2 := Sx.step_ok HK.out hgo
              rw [← hP2, ← hT2] at HN HK2
              rw [← hV] at HN
              rw [← hP2] at HS
              have HN := hide HN
              have HK2 := hide HK2
              have CA := hide (fun (wx : World) (hP : wx.ownsRow w.heap.size 63 2 (.slice A' P.length c') P.length (pvals P)) (hb : w.heap.size ≤ wx.heap.size) => by have := impl_advance o l m A' c' b t' x 0 P w.heap.size wx hP hb h0 n4 n5 hb0 hb1 (Int.le_refl _) (by omega); rwa [← HS, ← hT2] at this)
              clear hf hx1 hx2 HR HK hgo hV hP2 hT2 HS
              go_wp2_with fail
              refine ((unhide CF) _).mono ?_; rintro e w6 ⟨rfl, hb6⟩
              have W6 := own_below W5 hb6
              have D6 := own_below D5 hb6
              have P6 := own_below P5 hb6
              have K6 := K5.below hb6 K5.lt
              have B6 := below_next (Nat.le_refl _) B5 hb6
              clear W5 D5 P5 K5 B5 hb6 CF a0 a1 a2 a3 a4 a5
              have a0 : w6.cell? ⟨w.heap.size, 0, none⟩ = some (.int .i64 o) := K6.cell 0
              have a1 : w6.cell? ⟨w.heap.size, 1, none⟩ = some (.int .i64 l) := K6.cell 1
              have a2 : w6.cell? ⟨w.heap.size, 2, none⟩ = some (.int .i64 m) := K6.cell 2
              have a3 : w6.cell? ⟨w.heap.size, 3, none⟩ = some (.slice A' P.length c') := K6.cell 3
              have a4 : w6.cell? ⟨w.heap.size, 4, none⟩ = some (.int .i64 b) := K6.cell 4
              have a5 : w6.cell? ⟨w.heap.size, 5, none⟩ = some (.int .i64 t') := K6.cell 5
              go_wp2_with fail
              refine ((unhide CW) _).mono ?_; rintro e w7 ⟨rfl, hb7⟩
              have W7 := own_below W6 hb7
              have D7 := own_below D6 hb7
              have P7 := own_below P6 hb7
              have K7 := K6.below hb7 K6.lt
              have B7 := below_next (Nat.le_refl _) B6 hb7
              clear W6 D6 P6 K6 B6 hb7 CW a0 a1 a2 a3 a4 a5
              have a0 : w7.cell? ⟨w.heap.size, 0, none⟩ = some (.int .i64 o) := K7.cell 0
              have a1 : w7.cell? ⟨w.heap.size, 1, none⟩ = some (.int .i64 l) := K7.cell 1
              have a2 : w7.cell? ⟨w.heap.size, 2, none⟩ = some (.int .i64 m) := K7.cell 2
              have a3 : w7.cell? ⟨w.heap.size, 3, none⟩ = some (.slice A' P.length c') := K7.cell 3
              have a4 : w7.cell? ⟨w.heap.size, 4, none⟩ = some (.int .i64 b) := K7.cell 4
              have a5 : w7.cell? ⟨w.heap.size, 5, none⟩ = some (.int .i64 t') := K7.cell 5
              go_wp2_with (at_builtin; refine wpList_append_any _ rfl _ _ _ rfl w.heap.size 3 i0 (.int .i64 0) 1 8 Try.underlying38 hi0 hz0 hz1 hz3 (by rfl) (by decide) (.slice Aw ws.length cw) ws.length (ivals ws) rfl (W7.alloc _) _ _ 1 1 [.int .i64 V] rfl (reads_one _ _ _) (by simp [Value.oneCell']) (by simp only [maxLen]; omega) (by omega) (by have := B7.size; simp; omega) ?_; intro v' w9 hown9 hg9 _; have W8 := W7.alloc (.cells #[.int .i64 V] 3); have D9 := own_other (D7.alloc (.cells #[.int .i64 V] 3)) W8 hg9 (by decide); have P9 := own_other (P7.alloc (.cells #[.int .i64 V] 3)) W8 hg9 (by decide); have K9 := blk_other (K7.alloc (.cells #[.int .i64 V] 3)) W8 hg9 (by decide); have B9 := (B7.alloc B7.size (.cells #[.int .i64 V] 3)).grown hg9 (by have := B7.size; simp; omega) (fun g hgg => (W8.lt g hgg).1); have W9 := own_nodup hown9; obtain ⟨Aw2, cw2, rfl⟩ := own_shapeN W9; clear W8 hown9 hg9 a0 a1 a2 a3 a4 a5; clear W7 D7 P7 K7 B7; have a0 : w9.cell? ⟨w.heap.size, 0, none⟩ = some (.int .i64 o) := K9.cell 0; have a1 : w9.cell? ⟨w.heap.size, 1, none⟩ = some (.int .i64 l) := K9.cell 1; have a2 : w9.cell? ⟨w.heap.size, 2, none⟩ = some (.int .i64 m) := K9.cell 2; have a3 : w9.cell? ⟨w.heap.size, 3, none⟩ = some (.slice A' P.length c') := K9.cell 3; have a4 : w9.cell? ⟨w.heap.size, 4, none⟩ = some (.int .i64 b) := K9.cell 4; have a5 : w9.cell? ⟨w.heap.size, 5, none⟩ = some (.int .i64 t') := K9.cell 5)
              refine ((unhide CA) _ P9 B9.size).mono ?_; rintro e wa ⟨A4, c4, rfl, PA, hg⟩
              rw [← ownBlock_slice A' P.length c'] at hg
              have WA := own_other W9 P9 hg (by decide)
              have DA := own_other D9 P9 hg (by decide)
              have KA := blk_other K9 P9 hg (by decide)
              have BA := B9.grown hg B9.size (fun g hgg => (P9.lt g hgg).1)
              clear hg
              clear W9 D9 P9 K9 B9 
              have a0 : wa.cell? ⟨w.heap.size, 0, none⟩ = some (.int .i64 o) := KA.cell 0
              have a1 : wa.cell? ⟨w.heap.size, 1, none⟩ = some (.int .i64 l) := KA.cell 1
              have a2 : wa.cell? ⟨w.heap.size, 2, none⟩ = some (.int .i64 m) := KA.cell 2
              have a3 : wa.cell? ⟨w.heap.size, 3, none⟩ = some (.slice A' P.length c') := KA.cell 3
              have a4 : wa.cell? ⟨w.heap.size, 4, none⟩ = some (.int .i64 b) := KA.cell 4
              have a5 : wa.cell? ⟨w.heap.size, 5, none⟩ = some (.int .i64 t') := KA.cell 5
              have fa0 := KA.frozen 0
              have fa1 := KA.frozen 1
              have fa2 := KA.frozen 2
              have fa3 := KA.frozen 3
              have fa4 := KA.frozen 4
              have fa5 := KA.frozen 5
              have KS := blk6_set KA (.int .i64 o) (.int .i64 l) (.int .i64 m) (.slice A4 P2.length c4) (.int .i64 b) (.int .i64 t2)
              have HG := hide (only6 wa w.heap.size (.int .i64 o) (.int .i64 l) (.int .i64 m) (.slice A4 P2.length c4) (.int .i64 b) (.int .i64 t2))
              have WS := WA.kept HG.out (.inr (own_blk_ne WA KA (by decide)))
              have DS := DA.kept HG.out (.inr (own_blk_ne DA KA (by decide)))
              have PS := PA.kept HG.out (.inr (own_blk_ne PA KA (by decide)))
              have BS := below_set6 (g := w.heap.size) BA (Nat.le_refl _) (.int .i64 o) (.int .i64 l) (.int .i64 m) (.slice A4 P2.length c4) (.int .i64 b) (.int .i64 t2)
              clear WA DA PA BA HG
              go_wp2_with fail
              go_roundw
              case rel => exact ⟨k + 1, ws ++ [V], ds, P2, t2, Aw2, Ad, A4, cw2, cd, c4, by omega, by go_num, by rw [hw1], rfl, hide (by rw [hw1, hwl.out]), hdl, by rw [hw1]; exact own_ints WS, DS, PS, KS, BS, HK2, HN⟩
              case measure => simp [intOf]; omega
            · obtain ⟨V, hV⟩ : ∃ V, V = Sx.widthI l m P.length t' := ⟨_, rfl⟩
              have CW := hide (fun wx => by have := impl_width o l m A' P.length c' b t' wx h0 (by omega) n5; rwa [← hV] at this)
              have hw1 : (ws ++ [V]).length = ws.length + 1 := by simp
              have hcb : Sx.canB l m P.length t' x = true := by
                rcases Sx.go_of hgo with h | h
                · exact absurd h hx2
                · exact h.2
              have hcc := Sx.can_code HK.out hcb
              obtain ⟨u, hu⟩ : ∃ u, u = str (Sx.anyW l P t' x) := ⟨_, rfl⟩
              have CT := hide (fun w2 (hp : PR w2 w2.heap.size A' P) => by have := impl_wordText o l m A' c' b t' x P w2 hp h0 n4 h3 hcc; rwa [← hu] at this)
              have HL : 0 < u.size := by rw [hu, str_size]; exact (Sx.any_length l P t' x).1
              have hus : u.size ≤ 1026 := by rw [hu, str_size]; have := (Sx.any_length l P t' x).2; omega
              have hwd : Sx.wdOf l P t' x = u.data.toList := by rw [Sx.wd_word hx2, hu]; rfl
              have e2 : IntKind.i64.wrap ((ds.length : Int) + (u.size : Int)) = (ds.length : Int) + (u.size : Int) := IntWalk.i64_in _ (by omega)
              have ee : (x == Sx.two l + 1) = false := by rw [beq_eq_false_iff_ne]; exact hx1
              have ec : (x == Sx.two l) = false := by rw [beq_eq_false_iff_ne]; exact hx2
              by_cases hd : ds.length + u.size ≤ 2000
              · skip
                have HN := Sx.acc_go HR.out hlt HX.out hx1 hgo (by rw [hwd, Sx.len_bytes]; omega)
                rw [hwd] at HN
                have HS : Sx.stepP l m P b t' x = Sx.advP l m P b t' x (u[0].toNat : Int) := by rw [← Sx.fst_of HL, hu]; rfl
                obtain ⟨P2, hP2⟩ : ∃ P2, P2 = Sx.stepP l m P b t' x := ⟨_, rfl⟩
                obtain ⟨t2, hT2⟩ : ∃ t2, t2 = Sx.advT l x := ⟨_, rfl⟩
                have HK2 := Sx.step_ok HK.out hgo
                rw [← hP2, ← hT2] at HN HK2
                rw [← hV] at HN
                rw [← hP2] at HS
                have HN := hide HN
                have HK2 := hide HK2
                have hub := UInt8.toNat_lt u[0]
                have CA := hide (fun (wx : World) (hP : wx.ownsRow w.heap.size 63 2 (.slice A' P.length c') P.length (pvals P)) (hb : w.heap.size ≤ wx.heap.size) => by have := impl_advance o l m A' c' b t' x (u[0].toNat : Int) P w.heap.size wx hP hb h0 n4 n5 hb0 hb1 (by omega) (by omega); rwa [← HS, ← hT2] at this)
                have hdn : (ds ++ u.data.toList).length = ds.length + u.size := by rw [List.length_append, Sx.len_bytes]
                clear hf hx1 hx2 HR HK hgo hV hP2 hT2 HS hcb hcc hu hwd hub
                go_wp2_with fail
                refine ((unhide CF) _).mono ?_; rintro e w6 ⟨rfl, hb6⟩
                have W6 := own_below W5 hb6
                have D6 := own_below D5 hb6
                have P6 := own_below P5 hb6
                have K6 := K5.below hb6 K5.lt
                have B6 := below_next (Nat.le_refl _) B5 hb6
                clear W5 D5 P5 K5 B5 hb6 CF a0 a1 a2 a3 a4 a5
                have a0 : w6.cell? ⟨w.heap.size, 0, none⟩ = some (.int .i64 o) := K6.cell 0
                have a1 : w6.cell? ⟨w.heap.size, 1, none⟩ = some (.int .i64 l) := K6.cell 1
                have a2 : w6.cell? ⟨w.heap.size, 2, none⟩ = some (.int .i64 m) := K6.cell 2
                have a3 : w6.cell? ⟨w.heap.size, 3, none⟩ = some (.slice A' P.length c') := K6.cell 3
                have a4 : w6.cell? ⟨w.heap.size, 4, none⟩ = some (.int .i64 b) := K6.cell 4
                have a5 : w6.cell? ⟨w.heap.size, 5, none⟩ = some (.int .i64 t') := K6.cell 5
                go_wp2_with fail
                refine ((unhide CW) _).mono ?_; rintro e w7 ⟨rfl, hb7⟩
                have W7 := own_below W6 hb7
                have D7 := own_below D6 hb7
                have P7 := own_below P6 hb7
                have K7 := K6.below hb7 K6.lt
                have B7 := below_next (Nat.le_refl _) B6 hb7
                clear W6 D6 P6 K6 B6 hb7 CW a0 a1 a2 a3 a4 a5
                have a0 : w7.cell? ⟨w.heap.size, 0, none⟩ = some (.int .i64 o) := K7.cell 0
                have a1 : w7.cell? ⟨w.heap.size, 1, none⟩ = some (.int .i64 l) := K7.cell 1
                have a2 : w7.cell? ⟨w.heap.size, 2, none⟩ = some (.int .i64 m) := K7.cell 2
                have a3 : w7.cell? ⟨w.heap.size, 3, none⟩ = some (.slice A' P.length c') := K7.cell 3
                have a4 : w7.cell? ⟨w.heap.size, 4, none⟩ = some (.int .i64 b) := K7.cell 4
                have a5 : w7.cell? ⟨w.heap.size, 5, none⟩ = some (.int .i64 t') := K7.cell 5
                go_wp2_with (at_builtin; refine wpList_append_any _ rfl _ _ _ rfl w.heap.size 3 i0 (.int .i64 0) 1 8 Try.underlying38 hi0 hz0 hz1 hz3 (by rfl) (by decide) (.slice Aw ws.length cw) ws.length (ivals ws) rfl (W7.alloc _) _ _ 1 1 [.int .i64 V] rfl (reads_one _ _ _) (by simp [Value.oneCell']) (by simp only [maxLen]; omega) (by omega) (by have := B7.size; simp; omega) ?_; intro v' w9 hown9 hg9 _; have W8 := W7.alloc (.cells #[.int .i64 V] 3); have D9 := own_other (D7.alloc (.cells #[.int .i64 V] 3)) W8 hg9 (by decide); have P9 := own_other (P7.alloc (.cells #[.int .i64 V] 3)) W8 hg9 (by decide); have K9 := blk_other (K7.alloc (.cells #[.int .i64 V] 3)) W8 hg9 (by decide); have B9 := (B7.alloc B7.size (.cells #[.int .i64 V] 3)).grown hg9 (by have := B7.size; simp; omega) (fun g hgg => (W8.lt g hgg).1); have W9 := own_nodup hown9; obtain ⟨Aw2, cw2, rfl⟩ := own_shapeN W9; clear W8 hown9 hg9 a0 a1 a2 a3 a4 a5; clear W7 D7 P7 K7 B7; have a0 : w9.cell? ⟨w.heap.size, 0, none⟩ = some (.int .i64 o) := K9.cell 0; have a1 : w9.cell? ⟨w.heap.size, 1, none⟩ = some (.int .i64 l) := K9.cell 1; have a2 : w9.cell? ⟨w.heap.size, 2, none⟩ = some (.int .i64 m) := K9.cell 2; have a3 : w9.cell? ⟨w.heap.size, 3, none⟩ = some (.slice A' P.length c') := K9.cell 3; have a4 : w9.cell? ⟨w.heap.size, 4, none⟩ = some (.int .i64 b) := K9.cell 4; have a5 : w9.cell? ⟨w.heap.size, 5, none⟩ = some (.int .i64 t') := K9.cell 5)
                refine ((unhide CT) _ ((OwnP.of_own rfl P9).pr (Nat.le_refl _))).mono ?_; rintro e w10 ⟨rfl, hb10⟩
                have W10 := own_below W9 hb10
                have D10 := own_below D9 hb10
                have P10 := own_below P9 hb10
                have K10 := K9.below hb10 K9.lt
                have B10 := below_next (Nat.le_refl _) B9 hb10
                clear W9 D9 P9 K9 B9 hb10 CT a0 a1 a2 a3 a4 a5
                have a0 : w10.cell? ⟨w.heap.size, 0, none⟩ = some (.int .i64 o) := K10.cell 0
                have a1 : w10.cell? ⟨w.heap.size, 1, none⟩ = some (.int .i64 l) := K10.cell 1
                have a2 : w10.cell? ⟨w.heap.size, 2, none⟩ = some (.int .i64 m) := K10.cell 2
                have a3 : w10.cell? ⟨w.heap.size, 3, none⟩ = some (.slice A' P.length c') := K10.cell 3
                have a4 : w10.cell? ⟨w.heap.size, 4, none⟩ = some (.int .i64 b) := K10.cell 4
                have a5 : w10.cell? ⟨w.heap.size, 5, none⟩ = some (.int .i64 t') := K10.cell 5
                go_wp2_with (at_builtin; refine Lib.wpList_append_own_string _ rfl _ _ 48 9 rfl w.heap.size 5 j0 Try.underlying48 Try.underlying9 hj0 hy0 hy1 hy3 (.slice Ad ds.length cd) ds.length (bvals ds) rfl D10 u rfl (by simp only [maxLen]; omega) (by omega) B10.size ?_; intro v3 w11 hown11 hg11 _; have D11 := own_join hown11; have W11 := own_other W10 D10 hg11 (by decide); have P11 := own_other P10 D10 hg11 (by decide); have K11 := blk_other K10 D10 hg11 (by decide); have B11 := B10.grown hg11 B10.size (fun g hgg => (D10.lt g hgg).1); obtain ⟨Ad2, cd2, rfl⟩ := own_shapeN D11; clear hown11 hg11 a0 a1 a2 a3 a4 a5; clear W10 D10 P10 K10 B10)
                have s18 : Below w.heap.size w w11.drew ∧ w11.drew.cell? ⟨w.heap.size, 0, none⟩ = some (.int .i64 o) ∧ w11.drew.cell? ⟨w.heap.size, 1, none⟩ = some (.int .i64 l) ∧ w11.drew.cell? ⟨w.heap.size, 2, none⟩ = some (.int .i64 m) ∧ w11.drew.cell? ⟨w.heap.size, 3, none⟩ = some (.slice A' P.length c') ∧ w11.drew.cell? ⟨w.heap.size, 4, none⟩ = some (.int .i64 b) ∧ w11.drew.cell? ⟨w.heap.size, 5, none⟩ = some (.int .i64 t') := ⟨B11.drew, K11.cell 0, K11.cell 1, K11.cell 2, K11.cell 3, K11.cell 4, K11.cell 5⟩
                refine wp_region_final_drew (S := (fun W => Below w.heap.size w W ∧ W.cell? ⟨w.heap.size, 0, none⟩ = some (.int .i64 o) ∧ W.cell? ⟨w.heap.size, 1, none⟩ = some (.int .i64 l) ∧ W.cell? ⟨w.heap.size, 2, none⟩ = some (.int .i64 m) ∧ W.cell? ⟨w.heap.size, 3, none⟩ = some (.slice A' P.length c') ∧ W.cell? ⟨w.heap.size, 4, none⟩ = some (.int .i64 b) ∧ W.cell? ⟨w.heap.size, 5, none⟩ = some (.int .i64 t'))) 5 (by kernel_rfl) (by first | assumption | exact s18) (fun hHeld => ?_)
                refine wpAnyF_take (i := 0) (oi := { dst := some 71, op := Op.load 31 (Operand.tmp 2), type := 31, pos := "l2_words.go:213", after := #[], guard := none }) (v := ?_) rfl (by kernel_rfl) (by kernel_rfl) (by kernel_rfl) (by kernel_rfl) (fun _ _ _ h => h) (Or.inl ⟨by rfl, ?_⟩) (by assumption) ?_; rotate_left
                · intro W hW; (try dsimp only at hW); go_simp;  try (with_reducible rfl)
                try simp only [Act.put, List.setIfInBounds_toArray, List.set_cons_zero, List.set_cons_succ]
                refine wpAnyF_take (i := 1) (oi := { dst := some 72, op := Op.move (Operand.tmp 12), type := 3, pos := "l2_words.go:213", after := #[], guard := none }) (v := ?_) rfl (by kernel_rfl) (by kernel_rfl) (by kernel_rfl) (by kernel_rfl) (fun _ _ _ h => h) (Or.inl ⟨by rfl, ?_⟩) (by assumption) ?_; rotate_left
                · intro W hW; (try dsimp only at hW); go_simp;  try (with_reducible rfl)
                try simp only [Act.put, List.setIfInBounds_toArray, List.set_cons_zero, List.set_cons_succ]
                refine wpAnyF_take (i := 2) (oi := { dst := some 73, op := Op.move (Operand.tmp 13), type := 9, pos := "l2_words.go:213", after := #[], guard := none }) (v := ?_) rfl (by kernel_rfl) (by kernel_rfl) (by kernel_rfl) (by kernel_rfl) (fun _ _ _ h => h) (Or.inl ⟨by rfl, ?_⟩) (by assumption) ?_; rotate_left
                · intro W hW; (try dsimp only at hW); go_simp;  try (with_reducible rfl)
                try simp only [Act.put, List.setIfInBounds_toArray, List.set_cons_zero, List.set_cons_succ]
                refine wpAnyF_take (i := 3) (oi := { dst := some 74, op := Op.index 9 (Operand.tmp 73) (Operand.const (Value.int IntKind.i64 0)), type := 5, pos := "l2_words.go:213", after := #[{ on := 2, ground := Ground.data }], guard := none }) (v := ?_) rfl (by kernel_rfl) (by kernel_rfl) (by kernel_rfl) (by kernel_rfl) (fun _ _ _ h => h) (Or.inl ⟨by rfl, ?_⟩) (by assumption) ?_; rotate_left
                · intro W hW; (try dsimp only at hW); go_simp;  try (with_reducible rfl)
                try simp only [Act.put, List.setIfInBounds_toArray, List.set_cons_zero, List.set_cons_succ]
                refine wpAnyF_ready (rs := [4]) (by kernel_rfl) (by simp) (AllReadyF.cons (i := 4) (o := { dst := some 75, op := Op.call { callee := Callee.value (Operand.func 65), args := #[Operand.tmp 71, Operand.tmp 72, Operand.tmp 74], argTypes := #[31, 3, 5] }, type := 31, pos := "l2_words.go:213", after := #[{ on := 0, ground := Ground.data }, { on := 1, ground := Ground.data }, { on := 3, ground := Ground.data }], guard := none }) rfl (fun K hK => ?_) AllReadyF.nil)
                go_simp
                refine ((unhide CA) _ (own_drew P11) B11.size).mono ?_; rintro e wa ⟨A4, c4, rfl, PA, hg⟩
                rw [← ownBlock_slice A' P.length c'] at hg
                have WA := own_other (own_drew W11) (own_drew P11) hg (by decide)
                have DA := own_other (own_drew D11) (own_drew P11) hg (by decide)
                have KA := blk_other (Blk.drew K11) (own_drew P11) hg (by decide)
                have BA := B11.drew.grown hg B11.size (fun g hgg => (P11.lt g hgg).1)
                clear hg
                have HKp : Below w.heap.size w wa ∧ wa.cell? ⟨w.heap.size, 0, none⟩ = some (.int .i64 o) ∧ wa.cell? ⟨w.heap.size, 1, none⟩ = some (.int .i64 l) ∧ wa.cell? ⟨w.heap.size, 2, none⟩ = some (.int .i64 m) ∧ wa.cell? ⟨w.heap.size, 3, none⟩ = some (.slice A' P.length c') ∧ wa.cell? ⟨w.heap.size, 4, none⟩ = some (.int .i64 b) ∧ wa.cell? ⟨w.heap.size, 5, none⟩ = some (.int .i64 t') := ⟨BA, KA.cell 0, KA.cell 1, KA.cell 2, KA.cell 3, KA.cell 4, KA.cell 5⟩
                try go_wp2_with fail
                refine hK.out _ _ (by (try dsimp only); first | exact HKp) (fun hHeld => ?_)
                clear hK K
                try simp only [Act.put, List.setIfInBounds_toArray, List.set_cons_zero, List.set_cons_succ]
                refine wpAnyF_ready (rs := [5]) (by kernel_rfl) (by simp) (AllReadyF.last (o := { dst := none, op := Op.store 31 (Operand.tmp 2) (Operand.tmp 75), type := 0, pos := "l2_words.go:213", after := #[{ on := 4, ground := Ground.data }, { on := 4, ground := Ground.chain }, { on := 0, ground := Ground.phase }, { on := 1, ground := Ground.phase }, { on := 2, ground := Ground.phase }, { on := 3, ground := Ground.phase }, { on := 4, ground := Ground.phase }], guard := none }) rfl (fun K hK => ?_))
                have a0 : wa.cell? ⟨w.heap.size, 0, none⟩ = some (.int .i64 o) := KA.cell 0
                have a1 : wa.cell? ⟨w.heap.size, 1, none⟩ = some (.int .i64 l) := KA.cell 1
                have a2 : wa.cell? ⟨w.heap.size, 2, none⟩ = some (.int .i64 m) := KA.cell 2
                have a3 : wa.cell? ⟨w.heap.size, 3, none⟩ = some (.slice A' P.length c') := KA.cell 3
                have a4 : wa.cell? ⟨w.heap.size, 4, none⟩ = some (.int .i64 b) := KA.cell 4
                have a5 : wa.cell? ⟨w.heap.size, 5, none⟩ = some (.int .i64 t') := KA.cell 5
                have fa0 := KA.frozen 0
                have fa1 := KA.frozen 1
                have fa2 := KA.frozen 2
                have fa3 := KA.frozen 3
                have fa4 := KA.frozen 4
                have fa5 := KA.frozen 5
                have KS := blk6_set KA (.int .i64 o) (.int .i64 l) (.int .i64 m) (.slice A4 P2.length c4) (.int .i64 b) (.int .i64 t2)
                have HG := hide (only6 wa w.heap.size (.int .i64 o) (.int .i64 l) (.int .i64 m) (.slice A4 P2.length c4) (.int .i64 b) (.int .i64 t2))
                have WS := WA.kept HG.out (.inr (own_blk_ne WA KA (by decide)))
                have DS := DA.kept HG.out (.inr (own_blk_ne DA KA (by decide)))
                have PS := PA.kept HG.out (.inr (own_blk_ne PA KA (by decide)))
                have BS := below_set6 (g := w.heap.size) BA (Nat.le_refl _) (.int .i64 o) (.int .i64 l) (.int .i64 m) (.slice A4 P2.length c4) (.int .i64 b) (.int .i64 t2)
                clear WA DA PA BA HG HKp hHeld W11 D11 P11 K11 B11 s18
                go_simp
                clear a0 a1 a2 a3 a4 a5 fa0 fa1 fa2 fa3 fa4 fa5
                refine hK.out _ _ ?_
                clear hK K
                try simp only [Act.put, List.setIfInBounds_toArray, List.set_cons_zero, List.set_cons_succ]
                refine wpAnyF_done (by kernel_rfl) ?_ _
                go_wp2_with fail
                go_roundw
                case rel => exact ⟨k + 1, ws ++ [V], (ds ++ u.data.toList), P2, t2, Aw2, Ad2, A4, cw2, cd2, c4, by omega, by go_num, by rw [hw1], by rw [hdn], hide (by rw [hw1, hwl.out]), by rw [hdn]; exact hd, by rw [hw1]; exact own_ints WS, by rw [hdn]; rw [hdn] at DS; exact DS, PS, KS, BS, HK2, HN⟩
                case measure => simp [intOf]; omega
              · skip
                have HN := hide (Sx.acc_long HR.out hlt HX.out hx1 (by rw [hwd, Sx.len_bytes]; omega))
                clear hf hx1 hx2 HR HK hgo hV hcb hcc hu hwd
                go_wp2_with fail
                refine ((unhide CF) _).mono ?_; rintro e w6 ⟨rfl, hb6⟩
                have W6 := own_below W5 hb6
                have D6 := own_below D5 hb6
                have P6 := own_below P5 hb6
                have K6 := K5.below hb6 K5.lt
                have B6 := below_next (Nat.le_refl _) B5 hb6
                clear W5 D5 P5 K5 B5 hb6 CF a0 a1 a2 a3 a4 a5
                have a0 : w6.cell? ⟨w.heap.size, 0, none⟩ = some (.int .i64 o) := K6.cell 0
                have a1 : w6.cell? ⟨w.heap.size, 1, none⟩ = some (.int .i64 l) := K6.cell 1
                have a2 : w6.cell? ⟨w.heap.size, 2, none⟩ = some (.int .i64 m) := K6.cell 2
                have a3 : w6.cell? ⟨w.heap.size, 3, none⟩ = some (.slice A' P.length c') := K6.cell 3
                have a4 : w6.cell? ⟨w.heap.size, 4, none⟩ = some (.int .i64 b) := K6.cell 4
                have a5 : w6.cell? ⟨w.heap.size, 5, none⟩ = some (.int .i64 t') := K6.cell 5
                go_wp2_with fail
                refine ((unhide CW) _).mono ?_; rintro e w7 ⟨rfl, hb7⟩
                have W7 := own_below W6 hb7
                have D7 := own_below D6 hb7
                have P7 := own_below P6 hb7
                have K7 := K6.below hb7 K6.lt
                have B7 := below_next (Nat.le_refl _) B6 hb7
                clear W6 D6 P6 K6 B6 hb7 CW a0 a1 a2 a3 a4 a5
                have a0 : w7.cell? ⟨w.heap.size, 0, none⟩ = some (.int .i64 o) := K7.cell 0
                have a1 : w7.cell? ⟨w.heap.size, 1, none⟩ = some (.int .i64 l) := K7.cell 1
                have a2 : w7.cell? ⟨w.heap.size, 2, none⟩ = some (.int .i64 m) := K7.cell 2
                have a3 : w7.cell? ⟨w.heap.size, 3, none⟩ = some (.slice A' P.length c') := K7.cell 3
                have a4 : w7.cell? ⟨w.heap.size, 4, none⟩ = some (.int .i64 b) := K7.cell 4
                have a5 : w7.cell? ⟨w.heap.size, 5, none⟩ = some (.int .i64 t') := K7.cell 5
                go_wp2_with (at_builtin; refine wpList_append_any _ rfl _ _ _ rfl w.heap.size 3 i0 (.int .i64 0) 1 8 Try.underlying38 hi0 hz0 hz1 hz3 (by rfl) (by decide) (.slice Aw ws.length cw) ws.length (ivals ws) rfl (W7.alloc _) _ _ 1 1 [.int .i64 V] rfl (reads_one _ _ _) (by simp [Value.oneCell']) (by simp only [maxLen]; omega) (by omega) (by have := B7.size; simp; omega) ?_; intro v' w9 hown9 hg9 _; have W8 := W7.alloc (.cells #[.int .i64 V] 3); have D9 := own_other (D7.alloc (.cells #[.int .i64 V] 3)) W8 hg9 (by decide); have P9 := own_other (P7.alloc (.cells #[.int .i64 V] 3)) W8 hg9 (by decide); have K9 := blk_other (K7.alloc (.cells #[.int .i64 V] 3)) W8 hg9 (by decide); have B9 := (B7.alloc B7.size (.cells #[.int .i64 V] 3)).grown hg9 (by have := B7.size; simp; omega) (fun g hgg => (W8.lt g hgg).1); have W9 := own_nodup hown9; obtain ⟨Aw2, cw2, rfl⟩ := own_shapeN W9; clear W8 hown9 hg9 a0 a1 a2 a3 a4 a5; clear W7 D7 P7 K7 B7; have a0 : w9.cell? ⟨w.heap.size, 0, none⟩ = some (.int .i64 o) := K9.cell 0; have a1 : w9.cell? ⟨w.heap.size, 1, none⟩ = some (.int .i64 l) := K9.cell 1; have a2 : w9.cell? ⟨w.heap.size, 2, none⟩ = some (.int .i64 m) := K9.cell 2; have a3 : w9.cell? ⟨w.heap.size, 3, none⟩ = some (.slice A' P.length c') := K9.cell 3; have a4 : w9.cell? ⟨w.heap.size, 4, none⟩ = some (.int .i64 b) := K9.cell 4; have a5 : w9.cell? ⟨w.heap.size, 5, none⟩ = some (.int .i64 t') := K9.cell 5)
                refine ((unhide CT) _ ((OwnP.of_own rfl P9).pr (Nat.le_refl _))).mono ?_; rintro e w10 ⟨rfl, hb10⟩
                have W10 := own_below W9 hb10
                have D10 := own_below D9 hb10
                have P10 := own_below P9 hb10
                have K10 := K9.below hb10 K9.lt
                have B10 := below_next (Nat.le_refl _) B9 hb10
                clear W9 D9 P9 K9 B9 hb10 CT a0 a1 a2 a3 a4 a5
                have a0 : w10.cell? ⟨w.heap.size, 0, none⟩ = some (.int .i64 o) := K10.cell 0
                have a1 : w10.cell? ⟨w.heap.size, 1, none⟩ = some (.int .i64 l) := K10.cell 1
                have a2 : w10.cell? ⟨w.heap.size, 2, none⟩ = some (.int .i64 m) := K10.cell 2
                have a3 : w10.cell? ⟨w.heap.size, 3, none⟩ = some (.slice A' P.length c') := K10.cell 3
                have a4 : w10.cell? ⟨w.heap.size, 4, none⟩ = some (.int .i64 b) := K10.cell 4
                have a5 : w10.cell? ⟨w.heap.size, 5, none⟩ = some (.int .i64 t') := K10.cell 5
                go_wp2_with fail
                exact bodyPost_ret (v := .tuple #[.slice none 0 0, .string (str []), .bool false]) (by simp [results, Try.results71, go_sem]; try rfl) rfl (walk_ret o l m b t ps xs w _ (ok := false) (ws := []) (ds := []) HN.out (fun _ => ⟨rfl, rfl⟩) rfl rfl (.inl rfl) B10)
      · skip
        obtain rfl : k = xs.length := by omega
        have HN := hide (Sx.acc_end HR.out (Nat.le_refl _))
        have hcv := run_own_string (P := Try.prog) wr.drew 48 9 5 Try.underlying48 Try.underlying5 Try.underlying9 (own_drew D5)
        clear D5 P5 K5 HR HK
        go_wp2_with fail
        refine wp_region_held_drew (S := (fun W => W = wr.drew)) (by kernel_rfl) (by first | rfl) (fun hHeld => ?_)
        refine wpAnyH_take (i := 0) (oi := { dst := some 86, op := Op.move (Operand.tmp 9), type := 38, pos := "l2_words.go:216", after := #[], guard := none }) (v := ?_) rfl (by kernel_rfl) (by kernel_rfl) (by kernel_rfl) (fun _ _ _ h => h) (Or.inl ⟨by rfl, ?_⟩) (by assumption) ?_; rotate_left
        · intro W hW; (try dsimp only at hW); go_simp;  try (with_reducible rfl)
        try simp only [Act.put, List.setIfInBounds_toArray, List.set_cons_zero, List.set_cons_succ]
        refine wpAnyH_take (i := 1) (oi := { dst := some 87, op := Op.move (Operand.tmp 10), type := 48, pos := "l2_words.go:216", after := #[{ on := 3, ground := Ground.gcOnly Departure.lateStores }], guard := none }) (v := ?_) rfl (by kernel_rfl) (by kernel_rfl) (by kernel_rfl) (fun _ _ _ h => h) (Or.inl ⟨by rfl, ?_⟩) (by assumption) ?_; rotate_left
        · intro W hW; (try dsimp only at hW); go_simp;  try (with_reducible rfl)
        try simp only [Act.put, List.setIfInBounds_toArray, List.set_cons_zero, List.set_cons_succ]
        refine wpAnyH_take (i := 2) (oi := { dst := some 88, op := Op.convert 48 9 (Operand.tmp 87), type := 9, pos := "l2_words.go:216", after := #[{ on := 1, ground := Ground.data }, { on := 3, ground := Ground.gcOnly Departure.lateStores }], guard := none }) (v := ?_) rfl (by kernel_rfl) (by kernel_rfl) (by kernel_rfl) (fun _ _ _ h => h) (Or.inl ⟨by rfl, ?_⟩) (by assumption) ?_; rotate_left
        · intro W hW; (try dsimp only at hW); go_simp;  try (with_reducible rfl)
        try simp only [Act.put, List.setIfInBounds_toArray, List.set_cons_zero, List.set_cons_succ]
        refine wpAnyH_take (i := 3) (oi := { dst := some 4, op := Op.assign (Operand.tmp 86), type := 38, pos := "l2_words.go:216", after := #[{ on := 0, ground := Ground.data }, { on := 0, ground := Ground.phase }, { on := 1, ground := Ground.textOnly Departure.lateStores }, { on := 2, ground := Ground.textOnly Departure.lateStores }], guard := none }) (v := ?_) rfl (by kernel_rfl) (by kernel_rfl) (by kernel_rfl) (fun _ _ _ h => h) (Or.inl ⟨by rfl, ?_⟩) (by assumption) ?_; rotate_left
        · intro W hW; (try dsimp only at hW); go_simp;  try (with_reducible rfl)
        try simp only [Act.put, List.setIfInBounds_toArray, List.set_cons_zero, List.set_cons_succ]
        refine wpAnyH_take (i := 4) (oi := { dst := some 5, op := Op.assign (Operand.tmp 88), type := 9, pos := "l2_words.go:216", after := #[{ on := 2, ground := Ground.data }, { on := 3, ground := Ground.chain }, { on := 0, ground := Ground.phase }, { on := 1, ground := Ground.phase }, { on := 2, ground := Ground.phase }, { on := 3, ground := Ground.phase }], guard := none }) (v := ?_) rfl (by kernel_rfl) (by kernel_rfl) (by kernel_rfl) (fun _ _ _ h => h) (Or.inl ⟨by rfl, ?_⟩) (by assumption) ?_; rotate_left
        · intro W hW; (try dsimp only at hW); go_simp;  try (with_reducible rfl)
        try simp only [Act.put, List.setIfInBounds_toArray, List.set_cons_zero, List.set_cons_succ]
        refine wpAnyH_take (i := 5) (oi := { dst := some 6, op := Op.assign (Operand.const (Value.bool true)), type := 4, pos := "l2_words.go:216", after := #[{ on := 4, ground := Ground.chain }, { on := 0, ground := Ground.phase }, { on := 1, ground := Ground.phase }, { on := 2, ground := Ground.phase }, { on := 3, ground := Ground.phase }, { on := 4, ground := Ground.phase }], guard := none }) (v := ?_) rfl (by kernel_rfl) (by kernel_rfl) (by kernel_rfl) (fun _ _ _ h => h) (Or.inl ⟨by rfl, ?_⟩) (by assumption) ?_; rotate_left
        · intro W hW; (try dsimp only at hW); go_simp;  try (with_reducible rfl)
        try simp only [Act.put, List.setIfInBounds_toArray, List.set_cons_zero, List.set_cons_succ]
        refine wpAnyH_done (by kernel_rfl) ?_ _
        go_wp2_with fail
        exact bodyPost_ret (v := .tuple #[.slice Aw ws.length cw, .string (str ds), .bool true]) (by simp [results, Try.results71, go_sem]; try rfl) rfl (walk_ret o l m b t ps xs w _ (ok := true) (ws := ws) (ds := ds) HN.out (fun h => absurd h (by simp)) rfl rfl (OwnI.of_own rfl (own_drew W5)) B5.drew)

set_option maxRecDepth 100000 in
set_option maxHeartbeats 8000000 in
theorem impl_walkCodes (o l m : Int) (A : Option Addr) (c : Nat) (b t : Int) (ps : List (Int × Int)) (A2 : Option Addr) (c2 : Nat) (xs : List Int) (w : World) (hr : PR w w.heap.size A ps) (hz : ps.length ≤ 1048576) (hr2 : IR w w.heap.size A2 xs) (hz2 : xs.length ≤ 9223372036854775807) :
    Calls Try.prog 71 #[kv o l m A ps.length c b t, .slice A2 xs.length c2] w (WalkPost o l m b t ps xs w) := by
  by_cases hk : Sx.kOK o l m ps b t = true
  · by_cases hx : xs.length ≤ 3100
    · exact walk_goes o l m A c b t ps A2 c2 xs w hr hz hr2 hk hx
    · exact walk_big o l m A c b t ps A2 c2 xs w hr hz hr2 hz2 hk (by omega)
  · exact walk_bad o l m A c b t ps A2 c2 xs w hr hz hr2 hz2 (by simpa using hk)

end Go.Proofs.Ytegfcpdkehgdpaa

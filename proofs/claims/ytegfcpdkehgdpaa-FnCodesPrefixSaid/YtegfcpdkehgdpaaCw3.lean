/- The walks of CodesValid, CodesWidths and CodesData, of both sides. Conditions: the cells of the pairs and of the codes lie below the call's own memory. -/
import Derived.Test.YtegfcpdkehgdpaaCw2
namespace Go.Proofs.Ytegfcpdkehgdpaa
open Go.RowKit

theorem Sx.cwR_wk {o l m b t : Int} {ps : List (Int × Int)} {xs : List Int} (hk : Sx.kOK o l m ps b t = true) (hx : xs.length ≤ 3100) : Sx.cwR o l m b t ps xs = Sx.wk l m b xs ps t 0 := if_pos ⟨hk, hx⟩
theorem Sx.cwB_ok {o l m b t : Int} {ps : List (Int × Int)} {xs : List Int} (h : Sx.cwB o l m b t ps xs = true) : Sx.kOK o l m ps b t = true ∧ xs.length ≤ 3100 := by
  by_cases hk : Sx.kOK o l m ps b t = true ∧ xs.length ≤ 3100
  · exact hk
  · unfold Sx.cwB Sx.cwR at h; rw [if_neg hk] at h; cases h
theorem Sx.pick_some {ok : Bool} {ws : List Int} {ds : List UInt8} {o l m b t : Int} {ps : List (Int × Int)} {xs : List Int} (hR : Sx.cwR o l m b t ps xs = Sx.pick ok ws ds) (h : Sx.cwB o l m b t ps xs = true) : ok = true ∧ ds.length ≤ 2000 ∧ Sx.cwW o l m b t ps xs = ws ∧ Sx.cwD o l m b t ps xs = ds := by
  by_cases hc : ok = true ∧ ds.length ≤ 2000
  · have hp : Sx.pick ok ws ds = some (ws, ds) := if_pos hc
    obtain ⟨_, h2, h3⟩ := Sx.cw_some (hR.trans hp)
    exact ⟨hc.1, hc.2, h2, h3⟩
  · have hp : Sx.pick ok ws ds = none := if_neg hc
    rw [(Sx.cw_none (hR.trans hp)).1] at h; cases h
theorem ret_dat {a a' : ByteArray} {d d' : Bool} (h : d = d' ∧ a = a') : Ending.returned (.tuple #[.string a', .bool d']) = .returned (.tuple #[.string a, .bool d]) := by rw [h.1, h.2]
theorem OwnI.mono {w : World} {base base' : Nat} {A : Option Addr} {xs : List Int} (h : OwnI w base A xs) (hb : base' ≤ base) : OwnI w base' A xs := by
  rcases h with h | ⟨g', cs', hA, hb', h⟩
  · exact .inl h
  · exact .inr ⟨g', cs', hA, by omega, h⟩
/-- What CodesWidths answers. -/
def WidthsPost (o l m b t : Int) (ps : List (Int × Int)) (xs : List Int) (w : World) (e : Ending) (w' : World) : Prop :=
  ∃ A' c', e = .returned (.tuple #[.slice A' (Sx.cwW o l m b t ps xs).length c', .bool (Sx.cwB o l m b t ps xs)]) ∧ OwnI w' w.heap.size A' (Sx.cwW o l m b t ps xs) ∧ Below w.heap.size w w'
theorem widths_ret {o l m b t : Int} {ps : List (Int × Int)} {xs : List Int} {w w' : World} {A : Option Addr} {n c : Nat} {ws : List Int} {d : Bool} (hd : Sx.cwB o l m b t ps xs = d) (hW : Sx.cwW o l m b t ps xs = ws) (hn : n = ws.length) (hO : OwnI w' w.heap.size A ws) (hB : Below w.heap.size w w') :
    WidthsPost o l m b t ps xs w (.returned (.tuple #[.slice A n c, .bool d])) w' := by
  subst hn; subst hd; subst hW
  exact ⟨A, c, rfl, hO, hB⟩

set_option maxRecDepth 100000 in
set_option maxHeartbeats 4000000 in
theorem all_bad (o l m : Int) (A : Option Addr) (c : Nat) (b t : Int) (ps : List (Int × Int)) (A2 : Option Addr) (c2 : Nat) (xs : List Int) (w : World) (hr : PR w w.heap.size A ps) (hz : ps.length ≤ 1048576) (_hr2 : IR w w.heap.size A2 xs) (_hz2 : xs.length ≤ 9223372036854775807) (hk : Sx.kOK o l m ps b t = false) :
    Calls Try.prog 70 #[kv o l m A ps.length c b t, .slice A2 xs.length c2] w fun e w' => e = .returned (.bool (Sx.cwB o l m b t ps xs)) ∧ Below w.heap.size w w' := by
  have B0 : Below w.heap.size w (w.alloc (.cells #[.int .i64 o, .int .i64 l, .int .i64 m, .slice A ps.length c, .int .i64 b, .int .i64 t] 31)) := (Below.refl _ _).alloc (Nat.le_refl _) _
  have K0 := Blk.new w 31 #[.int .i64 o, .int .i64 l, .int .i64 m, .slice A ps.length c, .int .i64 b, .int .i64 t]
  have a0 : (w.alloc (.cells #[.int .i64 o, .int .i64 l, .int .i64 m, .slice A ps.length c, .int .i64 b, .int .i64 t] 31)).cell? ⟨w.heap.size, 0, none⟩ = some (.int .i64 o) := K0.cell 0
  have a1 : (w.alloc (.cells #[.int .i64 o, .int .i64 l, .int .i64 m, .slice A ps.length c, .int .i64 b, .int .i64 t] 31)).cell? ⟨w.heap.size, 1, none⟩ = some (.int .i64 l) := K0.cell 1
  have a2 : (w.alloc (.cells #[.int .i64 o, .int .i64 l, .int .i64 m, .slice A ps.length c, .int .i64 b, .int .i64 t] 31)).cell? ⟨w.heap.size, 2, none⟩ = some (.int .i64 m) := K0.cell 2
  have a3 : (w.alloc (.cells #[.int .i64 o, .int .i64 l, .int .i64 m, .slice A ps.length c, .int .i64 b, .int .i64 t] 31)).cell? ⟨w.heap.size, 3, none⟩ = some (.slice A ps.length c) := K0.cell 3
  have a4 : (w.alloc (.cells #[.int .i64 o, .int .i64 l, .int .i64 m, .slice A ps.length c, .int .i64 b, .int .i64 t] 31)).cell? ⟨w.heap.size, 4, none⟩ = some (.int .i64 b) := K0.cell 4
  have a5 : (w.alloc (.cells #[.int .i64 o, .int .i64 l, .int .i64 m, .slice A ps.length c, .int .i64 b, .int .i64 t] 31)).cell? ⟨w.heap.size, 5, none⟩ = some (.int .i64 t) := K0.cell 5
  have CV := spec_KnownValid o l m A c b t ps (w.alloc (.cells #[.int .i64 o, .int .i64 l, .int .i64 m, .slice A ps.length c, .int .i64 b, .int .i64 t] 31)) (hr.keep B0.size B0) hz
  rw [hk] at CV
  have CV := hide CV
  have HR := hide (Sx.cw_none (Sx.cwR_bad (xs := xs) (.inl hk))).1
  clear hk
  go_enter Try.func70, Try.ntmps70
  go_wp2_with fail
  refine (unhide CV).mono ?_; rintro e w1 ⟨rfl, hb⟩
  have B1 := below_next (Nat.le_refl _) B0 hb
  have K1 := K0.below hb K0.lt
  clear B0 K0 hb a0 a1 a2 a3 a4 a5
  have a0 : w1.cell? ⟨w.heap.size, 0, none⟩ = some (.int .i64 o) := K1.cell 0
  have a1 : w1.cell? ⟨w.heap.size, 1, none⟩ = some (.int .i64 l) := K1.cell 1
  have a2 : w1.cell? ⟨w.heap.size, 2, none⟩ = some (.int .i64 m) := K1.cell 2
  have a3 : w1.cell? ⟨w.heap.size, 3, none⟩ = some (.slice A ps.length c) := K1.cell 3
  have a4 : w1.cell? ⟨w.heap.size, 4, none⟩ = some (.int .i64 b) := K1.cell 4
  have a5 : w1.cell? ⟨w.heap.size, 5, none⟩ = some (.int .i64 t) := K1.cell 5
  go_wp2_with fail
  go_ret
  exact ⟨ret_bool HR.out.symm, B1⟩

set_option maxRecDepth 100000 in
set_option maxHeartbeats 4000000 in
theorem all_big (o l m : Int) (A : Option Addr) (c : Nat) (b t : Int) (ps : List (Int × Int)) (A2 : Option Addr) (c2 : Nat) (xs : List Int) (w : World) (hr : PR w w.heap.size A ps) (hz : ps.length ≤ 1048576) (_hr2 : IR w w.heap.size A2 xs) (hz2 : xs.length ≤ 9223372036854775807) (hk : Sx.kOK o l m ps b t = true) (hx : 3100 < xs.length) :
    Calls Try.prog 70 #[kv o l m A ps.length c b t, .slice A2 xs.length c2] w fun e w' => e = .returned (.bool (Sx.cwB o l m b t ps xs)) ∧ Below w.heap.size w w' := by
  have B0 : Below w.heap.size w (w.alloc (.cells #[.int .i64 o, .int .i64 l, .int .i64 m, .slice A ps.length c, .int .i64 b, .int .i64 t] 31)) := (Below.refl _ _).alloc (Nat.le_refl _) _
  have K0 := Blk.new w 31 #[.int .i64 o, .int .i64 l, .int .i64 m, .slice A ps.length c, .int .i64 b, .int .i64 t]
  have a0 : (w.alloc (.cells #[.int .i64 o, .int .i64 l, .int .i64 m, .slice A ps.length c, .int .i64 b, .int .i64 t] 31)).cell? ⟨w.heap.size, 0, none⟩ = some (.int .i64 o) := K0.cell 0
  have a1 : (w.alloc (.cells #[.int .i64 o, .int .i64 l, .int .i64 m, .slice A ps.length c, .int .i64 b, .int .i64 t] 31)).cell? ⟨w.heap.size, 1, none⟩ = some (.int .i64 l) := K0.cell 1
  have a2 : (w.alloc (.cells #[.int .i64 o, .int .i64 l, .int .i64 m, .slice A ps.length c, .int .i64 b, .int .i64 t] 31)).cell? ⟨w.heap.size, 2, none⟩ = some (.int .i64 m) := K0.cell 2
  have a3 : (w.alloc (.cells #[.int .i64 o, .int .i64 l, .int .i64 m, .slice A ps.length c, .int .i64 b, .int .i64 t] 31)).cell? ⟨w.heap.size, 3, none⟩ = some (.slice A ps.length c) := K0.cell 3
  have a4 : (w.alloc (.cells #[.int .i64 o, .int .i64 l, .int .i64 m, .slice A ps.length c, .int .i64 b, .int .i64 t] 31)).cell? ⟨w.heap.size, 4, none⟩ = some (.int .i64 b) := K0.cell 4
  have a5 : (w.alloc (.cells #[.int .i64 o, .int .i64 l, .int .i64 m, .slice A ps.length c, .int .i64 b, .int .i64 t] 31)).cell? ⟨w.heap.size, 5, none⟩ = some (.int .i64 t) := K0.cell 5
  have CV := spec_KnownValid o l m A c b t ps (w.alloc (.cells #[.int .i64 o, .int .i64 l, .int .i64 m, .slice A ps.length c, .int .i64 b, .int .i64 t] 31)) (hr.keep B0.size B0) hz
  rw [hk] at CV
  have CV := hide CV
  have HR := hide (Sx.cw_none (Sx.cwR_bad (o := o) (l := l) (m := m) (b := b) (t := t) (ps := ps) (.inr hx))).1
  have hxI : (3100 : Int) < (xs.length : Int) := by omega
  clear hk
  go_enter Try.func70, Try.ntmps70
  go_wp2_with fail
  refine (unhide CV).mono ?_; rintro e w1 ⟨rfl, hb⟩
  have B1 := below_next (Nat.le_refl _) B0 hb
  have K1 := K0.below hb K0.lt
  clear B0 K0 hb a0 a1 a2 a3 a4 a5
  have a0 : w1.cell? ⟨w.heap.size, 0, none⟩ = some (.int .i64 o) := K1.cell 0
  have a1 : w1.cell? ⟨w.heap.size, 1, none⟩ = some (.int .i64 l) := K1.cell 1
  have a2 : w1.cell? ⟨w.heap.size, 2, none⟩ = some (.int .i64 m) := K1.cell 2
  have a3 : w1.cell? ⟨w.heap.size, 3, none⟩ = some (.slice A ps.length c) := K1.cell 3
  have a4 : w1.cell? ⟨w.heap.size, 4, none⟩ = some (.int .i64 b) := K1.cell 4
  have a5 : w1.cell? ⟨w.heap.size, 5, none⟩ = some (.int .i64 t) := K1.cell 5
  go_wp2_with fail
  go_ret
  exact ⟨ret_bool HR.out.symm, B1⟩

set_option maxRecDepth 100000 in
set_option maxHeartbeats 4000000 in
theorem all_go (o l m : Int) (A : Option Addr) (c : Nat) (b t : Int) (ps : List (Int × Int)) (A2 : Option Addr) (c2 : Nat) (xs : List Int) (w : World) (hr : PR w w.heap.size A ps) (hz : ps.length ≤ 1048576) (hr2 : IR w w.heap.size A2 xs) (_hz2 : xs.length ≤ 9223372036854775807) (hcap : ps.length ≤ c) (hk : Sx.kOK o l m ps b t = true) (hx : xs.length ≤ 3100) :
    Calls Try.prog 70 #[kv o l m A ps.length c b t, .slice A2 xs.length c2] w fun e w' => e = .returned (.bool (Sx.cwB o l m b t ps xs)) ∧ Below w.heap.size w w' := by
  have B0 : Below w.heap.size w (w.alloc (.cells #[.int .i64 o, .int .i64 l, .int .i64 m, .slice A ps.length c, .int .i64 b, .int .i64 t] 31)) := (Below.refl _ _).alloc (Nat.le_refl _) _
  have K0 := Blk.new w 31 #[.int .i64 o, .int .i64 l, .int .i64 m, .slice A ps.length c, .int .i64 b, .int .i64 t]
  have a0 : (w.alloc (.cells #[.int .i64 o, .int .i64 l, .int .i64 m, .slice A ps.length c, .int .i64 b, .int .i64 t] 31)).cell? ⟨w.heap.size, 0, none⟩ = some (.int .i64 o) := K0.cell 0
  have a1 : (w.alloc (.cells #[.int .i64 o, .int .i64 l, .int .i64 m, .slice A ps.length c, .int .i64 b, .int .i64 t] 31)).cell? ⟨w.heap.size, 1, none⟩ = some (.int .i64 l) := K0.cell 1
  have a2 : (w.alloc (.cells #[.int .i64 o, .int .i64 l, .int .i64 m, .slice A ps.length c, .int .i64 b, .int .i64 t] 31)).cell? ⟨w.heap.size, 2, none⟩ = some (.int .i64 m) := K0.cell 2
  have a3 : (w.alloc (.cells #[.int .i64 o, .int .i64 l, .int .i64 m, .slice A ps.length c, .int .i64 b, .int .i64 t] 31)).cell? ⟨w.heap.size, 3, none⟩ = some (.slice A ps.length c) := K0.cell 3
  have a4 : (w.alloc (.cells #[.int .i64 o, .int .i64 l, .int .i64 m, .slice A ps.length c, .int .i64 b, .int .i64 t] 31)).cell? ⟨w.heap.size, 4, none⟩ = some (.int .i64 b) := K0.cell 4
  have a5 : (w.alloc (.cells #[.int .i64 o, .int .i64 l, .int .i64 m, .slice A ps.length c, .int .i64 b, .int .i64 t] 31)).cell? ⟨w.heap.size, 5, none⟩ = some (.int .i64 t) := K0.cell 5
  have CV := spec_KnownValid o l m A c b t ps (w.alloc (.cells #[.int .i64 o, .int .i64 l, .int .i64 m, .slice A ps.length c, .int .i64 b, .int .i64 t] 31)) (hr.keep B0.size B0) hz
  rw [hk] at CV
  have CV := hide CV
  have CL := hide (fun w1 (hp : PR w1 w1.heap.size A ps) (hi : IR w1 w1.heap.size A2 xs) => spec_l2Walk o l m A c b t ps A2 c2 xs w1 hp hi hcap hk hx)
  have HW := hide (Sx.cwR_wk hk hx)
  have hxI : ¬ (3100 : Int) < (xs.length : Int) := by omega
  clear hk
  go_enter Try.func70, Try.ntmps70
  go_wp2_with fail
  refine (unhide CV).mono ?_; rintro e w1 ⟨rfl, hb⟩
  have B1 := below_next (Nat.le_refl _) B0 hb
  have K1 := K0.below hb K0.lt
  clear B0 K0 hb a0 a1 a2 a3 a4 a5
  have a0 : w1.cell? ⟨w.heap.size, 0, none⟩ = some (.int .i64 o) := K1.cell 0
  have a1 : w1.cell? ⟨w.heap.size, 1, none⟩ = some (.int .i64 l) := K1.cell 1
  have a2 : w1.cell? ⟨w.heap.size, 2, none⟩ = some (.int .i64 m) := K1.cell 2
  have a3 : w1.cell? ⟨w.heap.size, 3, none⟩ = some (.slice A ps.length c) := K1.cell 3
  have a4 : w1.cell? ⟨w.heap.size, 4, none⟩ = some (.int .i64 b) := K1.cell 4
  have a5 : w1.cell? ⟨w.heap.size, 5, none⟩ = some (.int .i64 t) := K1.cell 5
  go_wp2_with fail
  refine ((unhide CL) _ (hr.keep B1.size B1) (hr2.keep B1.size B1)).mono ?_; rintro e w2 ⟨A1, n1, c1, t1, Aw, cw, ws, ds, ok, rfl, hO, hw1, hd1, hR, hb⟩
  have B2 := below_next (Nat.le_refl _) B1 hb
  have HR := hide (HW.out.trans hR)
  clear B1 K1 hb hR HW a0 a1 a2 a3 a4 a5
  cases ok
  · have HB := hide (Sx.cw_none (HR.out.trans Sx.pick_no)).1
    go_wp2_with fail
    go_ret
    exact ⟨ret_bool (by rw [HB.out]), B2.alloc B2.size _⟩
  · by_cases hd : ds.length ≤ 2000
    · have HB := hide (Sx.cw_some (HR.out.trans (Sx.pick_yes hd))).1
      have hds : (str ds).size = ds.length := str_size ds
      have hdI : ((str ds).size : Int) ≤ 2000 := by omega
      go_wp2_with fail
      go_ret
      exact ⟨ret_bool (by rw [HB.out]; first | rfl | (simp; omega)), B2.alloc B2.size _⟩
    · have HB := hide (Sx.cw_none (HR.out.trans (Sx.pick_long (by omega)))).1
      have hds : (str ds).size = ds.length := str_size ds
      have hdI : (2000 : Int) < ((str ds).size : Int) := by omega
      go_wp2_with fail
      go_ret
      exact ⟨ret_bool (by rw [HB.out]; first | rfl | (simp; omega)), B2.alloc B2.size _⟩

set_option maxRecDepth 100000 in
set_option maxHeartbeats 4000000 in
theorem spec_l2All (o l m : Int) (A : Option Addr) (c : Nat) (b t : Int) (ps : List (Int × Int)) (A2 : Option Addr) (c2 : Nat) (xs : List Int) (w : World) (hr : PR w w.heap.size A ps) (hz : ps.length ≤ 1048576) (hr2 : IR w w.heap.size A2 xs) (hz2 : xs.length ≤ 9223372036854775807) (hcap : ps.length ≤ c) :
    Calls Try.prog 70 #[kv o l m A ps.length c b t, .slice A2 xs.length c2] w fun e w' => e = .returned (.bool (Sx.cwB o l m b t ps xs)) ∧ Below w.heap.size w w' := by
  by_cases hk : Sx.kOK o l m ps b t = true
  · by_cases hx : xs.length ≤ 3100
    · exact all_go o l m A c b t ps A2 c2 xs w hr hz hr2 hz2 hcap hk hx
    · exact all_big o l m A c b t ps A2 c2 xs w hr hz hr2 hz2 hk (by omega)
  · exact all_bad o l m A c b t ps A2 c2 xs w hr hz hr2 hz2 (by simpa using hk)

set_option maxRecDepth 100000 in
set_option maxHeartbeats 4000000 in
theorem spec_CodesData (o l m : Int) (A : Option Addr) (c : Nat) (b t : Int) (ps : List (Int × Int)) (A2 : Option Addr) (c2 : Nat) (xs : List Int) (w : World) (hr : PR w w.heap.size A ps) (hz : ps.length ≤ 1048576) (hr2 : IR w w.heap.size A2 xs) (hz2 : xs.length ≤ 9223372036854775807) (hcap : ps.length ≤ c) :
    Calls Try.prog 25 #[kv o l m A ps.length c b t, .slice A2 xs.length c2] w fun e w' => e = .returned (.tuple #[.string (str (Sx.cwD o l m b t ps xs)), .bool (Sx.cwB o l m b t ps xs)]) ∧ Below w.heap.size w w' := by
  have B0 : Below w.heap.size w (w.alloc (.cells #[.int .i64 o, .int .i64 l, .int .i64 m, .slice A ps.length c, .int .i64 b, .int .i64 t] 31)) := (Below.refl _ _).alloc (Nat.le_refl _) _
  have K0 := Blk.new w 31 #[.int .i64 o, .int .i64 l, .int .i64 m, .slice A ps.length c, .int .i64 b, .int .i64 t]
  have a0 : (w.alloc (.cells #[.int .i64 o, .int .i64 l, .int .i64 m, .slice A ps.length c, .int .i64 b, .int .i64 t] 31)).cell? ⟨w.heap.size, 0, none⟩ = some (.int .i64 o) := K0.cell 0
  have a1 : (w.alloc (.cells #[.int .i64 o, .int .i64 l, .int .i64 m, .slice A ps.length c, .int .i64 b, .int .i64 t] 31)).cell? ⟨w.heap.size, 1, none⟩ = some (.int .i64 l) := K0.cell 1
  have a2 : (w.alloc (.cells #[.int .i64 o, .int .i64 l, .int .i64 m, .slice A ps.length c, .int .i64 b, .int .i64 t] 31)).cell? ⟨w.heap.size, 2, none⟩ = some (.int .i64 m) := K0.cell 2
  have a3 : (w.alloc (.cells #[.int .i64 o, .int .i64 l, .int .i64 m, .slice A ps.length c, .int .i64 b, .int .i64 t] 31)).cell? ⟨w.heap.size, 3, none⟩ = some (.slice A ps.length c) := K0.cell 3
  have a4 : (w.alloc (.cells #[.int .i64 o, .int .i64 l, .int .i64 m, .slice A ps.length c, .int .i64 b, .int .i64 t] 31)).cell? ⟨w.heap.size, 4, none⟩ = some (.int .i64 b) := K0.cell 4
  have a5 : (w.alloc (.cells #[.int .i64 o, .int .i64 l, .int .i64 m, .slice A ps.length c, .int .i64 b, .int .i64 t] 31)).cell? ⟨w.heap.size, 5, none⟩ = some (.int .i64 t) := K0.cell 5
  have CA := spec_l2All o l m A c b t ps A2 c2 xs (w.alloc (.cells #[.int .i64 o, .int .i64 l, .int .i64 m, .slice A ps.length c, .int .i64 b, .int .i64 t] 31)) (hr.keep B0.size B0) hz (hr2.keep B0.size B0) hz2 hcap
  cases hcb : Sx.cwB o l m b t ps xs
  · rw [hcb] at CA
    have CA := hide CA
    have HB := hide hcb
    have hn : Sx.cwR o l m b t ps xs = none := by
      cases hR : Sx.cwR o l m b t ps xs
      · rfl
      · rw [(Sx.cw_some hR).1] at hcb; cases hcb
    have HC := hide (Sx.cw_none hn).2.1
    have HD := hide (Sx.cw_none hn).2.2
    clear hn hcb
    go_enter Try.func25, Try.ntmps25
    go_wp2_with fail
    refine (unhide CA).mono ?_; rintro e w1 ⟨rfl, hb⟩
    have B1 := below_next (Nat.le_refl _) B0 hb
    clear a0 a1 a2 a3 a4 a5
    go_wp2_with fail
    go_ret2
    exact ⟨ret_dat ⟨rfl, by rw [HD.out]; rfl⟩, B1⟩
  · rw [hcb] at CA
    have CA := hide CA
    obtain ⟨hk, hx⟩ := Sx.cwB_ok hcb
    have CL := hide (fun w1 (hp : PR w1 w1.heap.size A ps) (hi : IR w1 w1.heap.size A2 xs) => spec_l2Walk o l m A c b t ps A2 c2 xs w1 hp hi hcap hk hx)
    have HW := hide (Sx.cwR_wk hk hx)
    have HB := hide hcb
    clear hcb hk hx
    go_enter Try.func25, Try.ntmps25
    go_wp2_with fail
    refine (unhide CA).mono ?_; rintro e w1 ⟨rfl, hb⟩
    have B1 := below_next (Nat.le_refl _) B0 hb
    have K1 := K0.below hb K0.lt
    clear B0 K0 hb a0 a1 a2 a3 a4 a5
    have a0 : w1.cell? ⟨w.heap.size, 0, none⟩ = some (.int .i64 o) := K1.cell 0
    have a1 : w1.cell? ⟨w.heap.size, 1, none⟩ = some (.int .i64 l) := K1.cell 1
    have a2 : w1.cell? ⟨w.heap.size, 2, none⟩ = some (.int .i64 m) := K1.cell 2
    have a3 : w1.cell? ⟨w.heap.size, 3, none⟩ = some (.slice A ps.length c) := K1.cell 3
    have a4 : w1.cell? ⟨w.heap.size, 4, none⟩ = some (.int .i64 b) := K1.cell 4
    have a5 : w1.cell? ⟨w.heap.size, 5, none⟩ = some (.int .i64 t) := K1.cell 5
    go_wp2_with fail
    refine ((unhide CL) _ (hr.keep B1.size B1) (hr2.keep B1.size B1)).mono ?_; rintro e w2 ⟨A1, n1, c1, t1, Aw, cw, ws, ds, ok, rfl, hO, hw1, hd1, hR, hb⟩
    have s1 := B1.size
    have B2 := below_next (Nat.le_refl _) B1 hb
    obtain ⟨rfl, hd, hcw, hcd⟩ := Sx.pick_some (HW.out.trans hR) HB.out
    have HC := hide hcw
    have HD := hide hcd
    clear B1 K1 hb hR HW hcw hcd a0 a1 a2 a3 a4 a5
    go_wp2_with fail
    go_ret2
    exact ⟨ret_dat ⟨rfl, by rw [HD.out]⟩, B2.alloc B2.size _⟩

set_option maxRecDepth 100000 in
set_option maxHeartbeats 4000000 in
theorem impl_CodesValid (o l m : Int) (A : Option Addr) (c : Nat) (b t : Int) (ps : List (Int × Int)) (A2 : Option Addr) (c2 : Nat) (xs : List Int) (w : World) (hr : PR w w.heap.size A ps) (hz : ps.length ≤ 1048576) (hr2 : IR w w.heap.size A2 xs) (hz2 : xs.length ≤ 9223372036854775807) :
    Calls Try.prog 23 #[kv o l m A ps.length c b t, .slice A2 xs.length c2] w fun e w' => e = .returned (.bool (Sx.cwB o l m b t ps xs)) ∧ Below w.heap.size w w' := by
  have B0 : Below w.heap.size w (w.alloc (.cells #[.int .i64 o, .int .i64 l, .int .i64 m, .slice A ps.length c, .int .i64 b, .int .i64 t] 31)) := (Below.refl _ _).alloc (Nat.le_refl _) _
  have K0 := Blk.new w 31 #[.int .i64 o, .int .i64 l, .int .i64 m, .slice A ps.length c, .int .i64 b, .int .i64 t]
  have a0 : (w.alloc (.cells #[.int .i64 o, .int .i64 l, .int .i64 m, .slice A ps.length c, .int .i64 b, .int .i64 t] 31)).cell? ⟨w.heap.size, 0, none⟩ = some (.int .i64 o) := K0.cell 0
  have a1 : (w.alloc (.cells #[.int .i64 o, .int .i64 l, .int .i64 m, .slice A ps.length c, .int .i64 b, .int .i64 t] 31)).cell? ⟨w.heap.size, 1, none⟩ = some (.int .i64 l) := K0.cell 1
  have a2 : (w.alloc (.cells #[.int .i64 o, .int .i64 l, .int .i64 m, .slice A ps.length c, .int .i64 b, .int .i64 t] 31)).cell? ⟨w.heap.size, 2, none⟩ = some (.int .i64 m) := K0.cell 2
  have a3 : (w.alloc (.cells #[.int .i64 o, .int .i64 l, .int .i64 m, .slice A ps.length c, .int .i64 b, .int .i64 t] 31)).cell? ⟨w.heap.size, 3, none⟩ = some (.slice A ps.length c) := K0.cell 3
  have a4 : (w.alloc (.cells #[.int .i64 o, .int .i64 l, .int .i64 m, .slice A ps.length c, .int .i64 b, .int .i64 t] 31)).cell? ⟨w.heap.size, 4, none⟩ = some (.int .i64 b) := K0.cell 4
  have a5 : (w.alloc (.cells #[.int .i64 o, .int .i64 l, .int .i64 m, .slice A ps.length c, .int .i64 b, .int .i64 t] 31)).cell? ⟨w.heap.size, 5, none⟩ = some (.int .i64 t) := K0.cell 5
  have CA := hide (impl_walkCodes o l m A c b t ps A2 c2 xs (w.alloc (.cells #[.int .i64 o, .int .i64 l, .int .i64 m, .slice A ps.length c, .int .i64 b, .int .i64 t] 31)) (hr.keep B0.size B0) hz (hr2.keep B0.size B0) hz2)
  go_enter Try.func23, Try.ntmps23
  go_wp2_with fail
  refine (unhide CA).mono ?_; rintro e w1 ⟨A3, c3, rfl, hO, hb⟩
  have B1 := below_next (Nat.le_refl _) B0 hb
  clear a0 a1 a2 a3 a4 a5
  go_wp2_with fail
  go_ret
  exact ⟨rfl, B1⟩

set_option maxRecDepth 100000 in
set_option maxHeartbeats 4000000 in
theorem impl_CodesData (o l m : Int) (A : Option Addr) (c : Nat) (b t : Int) (ps : List (Int × Int)) (A2 : Option Addr) (c2 : Nat) (xs : List Int) (w : World) (hr : PR w w.heap.size A ps) (hz : ps.length ≤ 1048576) (hr2 : IR w w.heap.size A2 xs) (hz2 : xs.length ≤ 9223372036854775807) :
    Calls Try.prog 26 #[kv o l m A ps.length c b t, .slice A2 xs.length c2] w fun e w' => e = .returned (.tuple #[.string (str (Sx.cwD o l m b t ps xs)), .bool (Sx.cwB o l m b t ps xs)]) ∧ Below w.heap.size w w' := by
  have B0 : Below w.heap.size w (w.alloc (.cells #[.int .i64 o, .int .i64 l, .int .i64 m, .slice A ps.length c, .int .i64 b, .int .i64 t] 31)) := (Below.refl _ _).alloc (Nat.le_refl _) _
  have K0 := Blk.new w 31 #[.int .i64 o, .int .i64 l, .int .i64 m, .slice A ps.length c, .int .i64 b, .int .i64 t]
  have a0 : (w.alloc (.cells #[.int .i64 o, .int .i64 l, .int .i64 m, .slice A ps.length c, .int .i64 b, .int .i64 t] 31)).cell? ⟨w.heap.size, 0, none⟩ = some (.int .i64 o) := K0.cell 0
  have a1 : (w.alloc (.cells #[.int .i64 o, .int .i64 l, .int .i64 m, .slice A ps.length c, .int .i64 b, .int .i64 t] 31)).cell? ⟨w.heap.size, 1, none⟩ = some (.int .i64 l) := K0.cell 1
  have a2 : (w.alloc (.cells #[.int .i64 o, .int .i64 l, .int .i64 m, .slice A ps.length c, .int .i64 b, .int .i64 t] 31)).cell? ⟨w.heap.size, 2, none⟩ = some (.int .i64 m) := K0.cell 2
  have a3 : (w.alloc (.cells #[.int .i64 o, .int .i64 l, .int .i64 m, .slice A ps.length c, .int .i64 b, .int .i64 t] 31)).cell? ⟨w.heap.size, 3, none⟩ = some (.slice A ps.length c) := K0.cell 3
  have a4 : (w.alloc (.cells #[.int .i64 o, .int .i64 l, .int .i64 m, .slice A ps.length c, .int .i64 b, .int .i64 t] 31)).cell? ⟨w.heap.size, 4, none⟩ = some (.int .i64 b) := K0.cell 4
  have a5 : (w.alloc (.cells #[.int .i64 o, .int .i64 l, .int .i64 m, .slice A ps.length c, .int .i64 b, .int .i64 t] 31)).cell? ⟨w.heap.size, 5, none⟩ = some (.int .i64 t) := K0.cell 5
  have CA := hide (impl_walkCodes o l m A c b t ps A2 c2 xs (w.alloc (.cells #[.int .i64 o, .int .i64 l, .int .i64 m, .slice A ps.length c, .int .i64 b, .int .i64 t] 31)) (hr.keep B0.size B0) hz (hr2.keep B0.size B0) hz2)
  go_enter Try.func26, Try.ntmps26
  go_wp2_with fail
  refine (unhide CA).mono ?_; rintro e w1 ⟨A3, c3, rfl, hO, hb⟩
  have B1 := below_next (Nat.le_refl _) B0 hb
  clear a0 a1 a2 a3 a4 a5
  go_wp2_with fail
  go_ret2
  exact ⟨rfl, B1⟩

set_option maxRecDepth 100000 in
set_option maxHeartbeats 4000000 in
theorem impl_CodesWidths (o l m : Int) (A : Option Addr) (c : Nat) (b t : Int) (ps : List (Int × Int)) (A2 : Option Addr) (c2 : Nat) (xs : List Int) (w : World) (hr : PR w w.heap.size A ps) (hz : ps.length ≤ 1048576) (hr2 : IR w w.heap.size A2 xs) (hz2 : xs.length ≤ 9223372036854775807) :
    Calls Try.prog 28 #[kv o l m A ps.length c b t, .slice A2 xs.length c2] w (WidthsPost o l m b t ps xs w) := by
  have B0 : Below w.heap.size w (w.alloc (.cells #[.int .i64 o, .int .i64 l, .int .i64 m, .slice A ps.length c, .int .i64 b, .int .i64 t] 31)) := (Below.refl _ _).alloc (Nat.le_refl _) _
  have K0 := Blk.new w 31 #[.int .i64 o, .int .i64 l, .int .i64 m, .slice A ps.length c, .int .i64 b, .int .i64 t]
  have a0 : (w.alloc (.cells #[.int .i64 o, .int .i64 l, .int .i64 m, .slice A ps.length c, .int .i64 b, .int .i64 t] 31)).cell? ⟨w.heap.size, 0, none⟩ = some (.int .i64 o) := K0.cell 0
  have a1 : (w.alloc (.cells #[.int .i64 o, .int .i64 l, .int .i64 m, .slice A ps.length c, .int .i64 b, .int .i64 t] 31)).cell? ⟨w.heap.size, 1, none⟩ = some (.int .i64 l) := K0.cell 1
  have a2 : (w.alloc (.cells #[.int .i64 o, .int .i64 l, .int .i64 m, .slice A ps.length c, .int .i64 b, .int .i64 t] 31)).cell? ⟨w.heap.size, 2, none⟩ = some (.int .i64 m) := K0.cell 2
  have a3 : (w.alloc (.cells #[.int .i64 o, .int .i64 l, .int .i64 m, .slice A ps.length c, .int .i64 b, .int .i64 t] 31)).cell? ⟨w.heap.size, 3, none⟩ = some (.slice A ps.length c) := K0.cell 3
  have a4 : (w.alloc (.cells #[.int .i64 o, .int .i64 l, .int .i64 m, .slice A ps.length c, .int .i64 b, .int .i64 t] 31)).cell? ⟨w.heap.size, 4, none⟩ = some (.int .i64 b) := K0.cell 4
  have a5 : (w.alloc (.cells #[.int .i64 o, .int .i64 l, .int .i64 m, .slice A ps.length c, .int .i64 b, .int .i64 t] 31)).cell? ⟨w.heap.size, 5, none⟩ = some (.int .i64 t) := K0.cell 5
  have CA := hide (impl_walkCodes o l m A c b t ps A2 c2 xs (w.alloc (.cells #[.int .i64 o, .int .i64 l, .int .i64 m, .slice A ps.length c, .int .i64 b, .int .i64 t] 31)) (hr.keep B0.size B0) hz (hr2.keep B0.size B0) hz2)
  go_enter Try.func28, Try.ntmps28
  go_wp2_with fail
  refine (unhide CA).mono ?_; rintro e w1 ⟨A3, c3, rfl, hO, hb⟩
  have B1 := below_next (Nat.le_refl _) B0 hb
  clear a0 a1 a2 a3 a4 a5
  go_wp2_with fail
  go_ret2
  exact widths_ret rfl rfl rfl (OwnI.mono hO (by simp)) B1

end Go.Proofs.Ytegfcpdkehgdpaa

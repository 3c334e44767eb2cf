/- The walk of the reference's steps over codes. Conditions: something known, few codes; the cells of both lie below the call's own memory. -/
import Derived.Test.YtegfcpdkehgdpaaCw1
namespace Go.Proofs.Ytegfcpdkehgdpaa
open Go.RowKit

theorem OwnP.other {w w' : World} {base b2 s2 n2 : Nat} {A : Option Addr} {ps : List (Int × Int)} {t2 : TypeId} {v2 : Value} {x2 : List Value} (h : OwnP w base A ps) (h2 : w.ownsRow b2 t2 s2 v2 n2 x2) (hg : w.grownBy w' v2.ownBlock) (hne : t2 ≠ 63) : OwnP w' base A ps := by
  rcases h with h | ⟨g', cs', hA, hb, hB', hz, hc⟩
  · exact .inl h
  · exact .inr ⟨g', cs', hA, hb, blk_other hB' h2 hg hne, hz, hc⟩
/-- The pairs are those of the caller, or lie in memory of the call's own. -/
def PK (w wr : World) (A : Option Addr) (P : List (Int × Int)) : Prop := PR w w.heap.size A P ∨ OwnP wr w.heap.size A P
theorem PK.pr {w wr : World} {A : Option Addr} {P : List (Int × Int)} (h : PK w wr A P) (hb : Below w.heap.size w wr) : PR wr wr.heap.size A P := by
  rcases h with h | h
  · exact h.keep hb.size hb
  · exact h.pr (Nat.le_refl _)
theorem PK.below {w wr w' : World} {A : Option Addr} {P : List (Int × Int)} (h : PK w wr A P) (hb : Below wr.heap.size wr w') : PK w w' A P := h.imp id fun h => h.below hb
theorem PK.drew {w wr : World} {A : Option Addr} {P : List (Int × Int)} (h : PK w wr A P) : PK w wr.drew A P := h.below (Below.refl _ _).drew
theorem PK.alloc {w wr : World} {A : Option Addr} {P : List (Int × Int)} (h : PK w wr A P) (o : Obj) : PK w (wr.alloc o) A P := h.below ((Below.refl _ _).alloc (Nat.le_refl _) o)
theorem PK.other {w wr w' : World} {b2 s2 n2 : Nat} {A : Option Addr} {P : List (Int × Int)} {t2 : TypeId} {v2 : Value} {x2 : List Value} (h : PK w wr A P) (h2 : wr.ownsRow b2 t2 s2 v2 n2 x2) (hg : wr.grownBy w' v2.ownBlock) (hne : t2 ≠ 63) : PK w w' A P := h.imp id fun h => h.other h2 hg hne
theorem PK.only {w wr w' : World} {g : Nat} {A : Option Addr} {P : List (Int × Int)} {t : TypeId} {cs : Array Value} (h : PK w wr A P) (hg : wr.grownBy w' (some g)) (hB : Blk wr g t cs) (hne : t ≠ 63) : PK w w' A P := h.imp id fun h => h.only hg hB hne
section
variable {P : Program} (w : World)
theorem wp_append_str {o : Oper} {a : Act} {K : Act → World → Prop} {Q : Exit → Act → World → Prop} (sl x : Operand) (t u : TypeId)
    (ho : o.op = .call { callee := .builtin .append, args := #[sl, x], argTypes := #[t, u] })
    (base : Nat) (e : TypeId) (i : TypeInfo) (ht : P.underlying t = some (.slice e)) (hu : P.underlying u = some .string) (hi : P.info? e = some i) (hz : i.zero = some (.int .u8 0))
    (hsize : i.size = 1) (hby : i.bytes = 1)
    (v : Value) (n : Nat) (xs : List Value) (hs : a.eval sl = v) (hown : w.ownsRow base e 1 v n xs) (s : ByteArray) (hx : a.eval x = .string s)
    (h63 : n + s.size ≤ maxLen) (hbytes : n + s.size ≤ 140737488355328) (hbase : base ≤ w.heap.size)
    (h : ∀ v' w', w'.ownsRow base e 1 v' (n + s.size) (xs ++ Lib.strCells s) → w.grownBy w' v.ownBlock → K (a.put o.dst v') w') : o.wp P a w K Q := by
  obtain ⟨v', w', hr, h2, h3, _⟩ := Lib.run_append_own_string (P := P) w base t u o.type e i ht hu hi hz hsize hby v n xs hown s h63 hbytes hbase
  unfold Oper.wp execOp
  simp only [ho, resolve, invoke, builtin, Sem.run_bind, Sem.run_pure, Result.andThen_ok, List.map_toArray, List.map_cons, List.map_nil, hs, hx, hr]
  exact h v' w' h2 h3
end
/-- What is left of an answer: its data is not too long, and it is no failure. -/
def Sx.pick (ok : Bool) (ws : List Int) (ds : List UInt8) : Option (List Int × List UInt8) := if ok = true ∧ ds.length ≤ 2000 then some (ws, ds) else none
theorem Sx.pick_yes {ws : List Int} {ds : List UInt8} (h : ds.length ≤ 2000) : Sx.pick true ws ds = some (ws, ds) := if_pos ⟨rfl, h⟩
theorem Sx.pick_no {ws : List Int} {ds : List UInt8} : Sx.pick false ws ds = none := if_neg (fun h => by cases h.1)
theorem Sx.pick_long {ok : Bool} {ws : List Int} {ds : List UInt8} (h : 2000 < ds.length) : Sx.pick ok ws ds = none := if_neg (fun h2 => by omega)
/-- What the reference's steps over codes answer. -/
def SWalk (o l m b t : Int) (ps : List (Int × Int)) (xs : List Int) (w : World) (e : Ending) (w' : World) : Prop :=
  ∃ (A1 : Option Addr) (n1 c1 : Nat) (t1 : Int) (Aw : Option Addr) (cw : Nat) (ws : List Int) (ds : List UInt8) (ok : Bool), e = .returned (.tuple #[kv o l m A1 n1 c1 b t1, .slice Aw ws.length cw, .string (str ds), .bool ok]) ∧ OwnI w' w.heap.size Aw ws ∧ ws.length ≤ 3100 ∧ ds.length ≤ 4000 ∧
    Sx.wk l m b xs ps t 0 = Sx.pick ok ws ds ∧ Below w.heap.size w w'
theorem swalk_ret {o l m b t : Int} {ps : List (Int × Int)} {xs : List Int} {w w' : World} {A1 : Option Addr} {n1 c1 : Nat} {t1 : Int} {Aw : Option Addr} {n cw : Nat} {ws : List Int} {ds : List UInt8} {u : ByteArray} {ok : Bool}
    (hn : n = ws.length) (hu : u = str ds) (h1 : OwnI w' w.heap.size Aw ws) (h2 : ws.length ≤ 3100) (h3 : ds.length ≤ 4000) (h4 : Sx.wk l m b xs ps t 0 = Sx.pick ok ws ds) (h5 : Below w.heap.size w w') :
    SWalk o l m b t ps xs w (.returned (.tuple #[kv o l m A1 n1 c1 b t1, .slice Aw n cw, .string u, .bool ok])) w' := by
  subst hn; subst hu
  exact ⟨A1, n1, c1, t1, Aw, cw, ws, ds, ok, rfl, h1, h2, h3, h4, h5⟩

set_option maxRecDepth 100000 in
set_option maxHeartbeats 8000000 in
theorem spec_l2Walk (o l m : Int) (A : Option Addr) (c : Nat) (b t : Int) (ps : List (Int × Int)) (A2 : Option Addr) (c2 : Nat) (xs : List Int) (w : World) (hr : PR w w.heap.size A ps) (hr2 : IR w w.heap.size A2 xs) (hcap0 : ps.length ≤ c) (hk : Sx.kOK o l m ps b t = true) (hx : xs.length ≤ 3100) :
    Calls Try.prog 72 #[kv o l m A ps.length c b t, .slice A2 xs.length c2] w (SWalk o l m b t ps xs w) := by
  obtain ⟨i0, hi0, hz0, hz1, hz3⟩ := info_parts try_infoI
  obtain ⟨j0, hj0, hy0, hy1, hy3⟩ := info_parts infoU8
  have h0 := (Sx.kOK_of hk).1
  obtain ⟨nb0, nb1⟩ := (Sx.kOK_of hk).2.2.1
  obtain ⟨m0, m1, m2, m3, m4, m5⟩ := Sx.kOK_nums hk
  have HK0 := hide hk
  have HR0 : Hid (([] : List UInt8).length ≤ 2000 → Sx.wk l m b xs ps t 0 = Sx.wkAcc [] [] (Sx.wk l m b (xs.drop 0) ps t ([] : List UInt8).length)) := hide fun _ => (Sx.acc_nil _).symm
  have HM0 : Hid (2000 < ([] : List UInt8).length → Sx.wk l m b xs ps t 0 = none) := hide fun h => absurd h (by simp)
  have CE := hide (fun wx => spec_l1End o l m wx (by omega) (by omega))
  have CC := hide (fun wx => spec_l1Clear o l m wx (by omega) (by omega))
  have B0 : Below w.heap.size w ((w.alloc (.cells #[.int .i64 o, .int .i64 l, .int .i64 m, .slice A ps.length c, .int .i64 b, .int .i64 t] 31)).alloc (.cells #[.int .i64 0, .int .i64 0, .int .i64 0, .slice none 0 0, .int .i64 0, .int .i64 0] 31)) := ((Below.refl _ _).alloc (Nat.le_refl _) _).alloc (by simp) _
  have K0 := (Blk.new w 31 #[.int .i64 o, .int .i64 l, .int .i64 m, .slice A ps.length c, .int .i64 b, .int .i64 t]).alloc (.cells #[.int .i64 0, .int .i64 0, .int .i64 0, .slice none 0 0, .int .i64 0, .int .i64 0] 31)
  have R0 := blk_new2 w (.cells #[.int .i64 o, .int .i64 l, .int .i64 m, .slice A ps.length c, .int .i64 b, .int .i64 t] 31) 31 #[.int .i64 0, .int .i64 0, .int .i64 0, .slice none 0 0, .int .i64 0, .int .i64 0]
  clear hk
  go_enter Try.func72, Try.ntmps72
  go_wp2_with fail
  have WA := own_base ((own_emptyP ((w.alloc (.cells #[.int .i64 o, .int .i64 l, .int .i64 m, .slice A ps.length c, .int .i64 b, .int .i64 t] 31)).alloc (.cells #[.int .i64 0, .int .i64 0, .int .i64 0, .slice none 0 0, .int .i64 0, .int .i64 0] 31)) 3 1 (w.heap.size + 2) (by simp)).alloc (.cells #[] 5)) (by omega : w.heap.size ≤ w.heap.size + 2)
  have DA := own_base (own_emptyP (((w.alloc (.cells #[.int .i64 o, .int .i64 l, .int .i64 m, .slice A ps.length c, .int .i64 b, .int .i64 t] 31)).alloc (.cells #[.int .i64 0, .int .i64 0, .int .i64 0, .slice none 0 0, .int .i64 0, .int .i64 0] 31)).alloc (.cells #[] 3)) 5 1 (w.heap.size + 3) (by simp)) (by omega : w.heap.size ≤ w.heap.size + 3)
  have KA := (K0.alloc (.cells #[] 3)).alloc (.cells #[] 5)
  have RA := (R0.alloc (.cells #[] 3)).alloc (.cells #[] 5)
  have BA := (B0.alloc B0.size (.cells #[] 3)).alloc (B0.alloc B0.size (.cells #[] 3)).size (.cells #[] 5)
  clear B0 K0 R0
  go_loopw [8, 9, 10] (fun s8 s9 s10 wr => ∃ (k : Nat) (ws : List Int) (ds : List UInt8) (P : List (Int × Int)) (t' : Int) (Aw Ad A' : Option Addr) (cw cd c' : Nat), k ≤ xs.length ∧ s10 = .int .i64 k ∧ s8 = .slice Aw ws.length cw ∧ s9 = .slice Ad ds.length cd ∧ Hid (ws.length = k) ∧ ds.length ≤ 3100 ∧ wr.ownsRow w.heap.size 3 1 (.slice Aw ws.length cw) ws.length (ivals ws) ∧ wr.ownsRow w.heap.size 5 1 (.slice Ad ds.length cd) ds.length (bvals ds) ∧ PK w wr A' P ∧ P.length ≤ c' ∧ Blk wr w.heap.size 31 #[.int .i64 o, .int .i64 l, .int .i64 m, .slice A' P.length c', .int .i64 b, .int .i64 t'] ∧ Blk wr (w.heap.size + 1) 31 #[.int .i64 0, .int .i64 0, .int .i64 0, .slice none 0 0, .int .i64 0, .int .i64 0] ∧ Below w.heap.size w wr ∧ Hid (Sx.kOK o l m P b t' = true) ∧ Hid (ds.length ≤ 2000 → Sx.wk l m b xs ps t 0 = Sx.wkAcc ws ds (Sx.wk l m b (xs.drop k) P t' ds.length)) ∧ Hid (2000 < ds.length → Sx.wk l m b xs ps t 0 = none)) (fun _ _ s10 _ => xs.length - (intOf s10).toNat)
  case atStart => exact ⟨0, [], [], ps, t, _, _, A, 0, 0, c, Nat.zero_le _, rfl, rfl, rfl, rfl, by simp, WA, DA, .inl hr, hcap0, KA, RA, BA, HK0, HR0, HM0⟩
  case round =>
    obtain ⟨k, ws, ds, P, t', Aw, Ad, A', cw, cd, c', hk, rfl, rfl, rfl, hwl, hdl, W5, D5, P5, hcap, K5, R5, B5, HK, HR, HM⟩ := hrel
    clear WA DA KA RA BA HR0 HK0 HM0
    obtain ⟨n0, n1, n2, n3, n4, n5⟩ := Sx.kOK_nums HK.out
    have h3 := (Sx.kOK_of HK.out).2.2.2.1
    have hwk : ws.length ≤ 3100 := by have := hwl.out; omega
    by_cases hlt : k < xs.length
    · obtain ⟨pg, po, rfl, hpg, hpc⟩ := hr2 (by omega)
      obtain ⟨x, hx'⟩ : ∃ x, x = xs[k] := ⟨_, rfl⟩
      have hpx := hpc k hlt
      rw [← hx'] at hpx
      have HX := hide hx'
      have i0' : (0 : Int) ≤ (k : Int) := Int.natCast_nonneg _
      have i1' : (k : Int) < (xs.length : Int) := by omega
      clear hpc hx'
      obtain ⟨V, hV⟩ : ∃ V, V = Sx.widthI l m P.length t' := ⟨_, rfl⟩
      have CW := hide (fun wx => by have := spec_l2Width o l m A' P.length c' b t' wx (by omega) (by omega) (by omega) (by omega) (by omega); rwa [← hV] at this)
      have hw1 : (ws ++ [V]).length = ws.length + 1 := by simp
      have a0 : wr.cell? ⟨w.heap.size, 0, none⟩ = some (.int .i64 o) := K5.cell 0
      have a1 : wr.cell? ⟨w.heap.size, 1, none⟩ = some (.int .i64 l) := K5.cell 1
      have a2 : wr.cell? ⟨w.heap.size, 2, none⟩ = some (.int .i64 m) := K5.cell 2
      have a3 : wr.cell? ⟨w.heap.size, 3, none⟩ = some (.slice A' P.length c') := K5.cell 3
      have a4 : wr.cell? ⟨w.heap.size, 4, none⟩ = some (.int .i64 b) := K5.cell 4
      have a5 : wr.cell? ⟨w.heap.size, 5, none⟩ = some (.int .i64 t') := K5.cell 5
      have hwk2 : ws.length + 1 ≤ 3100 := by have := hwl.out; omega
      by_cases hx1 : x = Sx.two l + 1
      · by_cases hl : k + 1 < xs.length
        · skip
          have HN : Sx.wk l m b xs ps t 0 = Sx.pick false (ws ++ [V]) ds := by
            rw [Sx.pick_no]
            by_cases hd : ds.length ≤ 2000
            · exact Sx.acc_more (HR.out hd) hl HX.out hx1
            · exact HM.out (by omega)
          have HN := hide HN
          have ee : (x == Sx.two l + 1) = true := by rw [beq_iff_eq]; exact hx1
          have e1 : IntKind.i64.wrap ((xs.length : Int) - 1) = (xs.length : Int) - 1 := IntWalk.i64_in _ (by omega)
          have e3 : ((k : Int) == (xs.length : Int) - 1) = false := by rw [beq_eq_false_iff_ne]; omega
          clear hx1 HR HM hV
          go_wp2_with fail
          refine ((unhide CW) _).mono ?_; rintro e w6 ⟨rfl, hb6⟩
          have W6 := own_below W5 hb6
          have D6 := own_below D5 hb6
          have P6 := PK.below P5 hb6
          have K6 := K5.below hb6 K5.lt
          have R6 := R5.below hb6 R5.lt
          have B6 := below_next (Nat.le_refl _) B5 hb6
          clear W5 D5 P5 K5 R5 B5 hb6 CW a0 a1 a2 a3 a4 a5
          go_wp2_with (at_builtin; refine wpList_append_any _ rfl _ _ _ rfl w.heap.size 3 i0 (.int .i64 0) 1 8 Try.underlying38 hi0 hz0 hz1 hz3 (by rfl) (by decide) (.slice Aw ws.length cw) ws.length (ivals ws) rfl (W6.alloc _) _ _ 1 1 [.int .i64 V] rfl (reads_one _ _ _) (by simp [Value.oneCell']) (by simp only [maxLen]; omega) (by omega) (by have := B6.size; simp; omega) ?_; intro v' w7 hown9 hg9 _; have W8 := W6.alloc (.cells #[.int .i64 V] 3); have D7 := own_other (D6.alloc (.cells #[.int .i64 V] 3)) W8 hg9 (by decide); have P7 := PK.other (P6.alloc (.cells #[.int .i64 V] 3)) W8 hg9 (by decide); have K7 := blk_other (K6.alloc (.cells #[.int .i64 V] 3)) W8 hg9 (by decide); have R7 := blk_other (R6.alloc (.cells #[.int .i64 V] 3)) W8 hg9 (by decide); have B7 := (B6.alloc B6.size (.cells #[.int .i64 V] 3)).grown hg9 (by have := B6.size; simp; omega) (fun g hgg => (W8.lt g hgg).1); have W7 := own_nodup hown9; obtain ⟨Aw2, cw2, rfl⟩ := own_shapeN W7; clear W8 hown9 hg9; clear W6 D6 P6 K6 R6 B6)
          have x7 := (B7.cell (p := ⟨pg, po + k, none⟩) hpg).trans hpx
          have s7 : Below w7.heap.size w7 w7.drew ∧ w7.drew.cell? ⟨w.heap.size, 0, none⟩ = some (.int .i64 o) ∧ w7.drew.cell? ⟨w.heap.size, 1, none⟩ = some (.int .i64 l) ∧ w7.drew.cell? ⟨w.heap.size, 2, none⟩ = some (.int .i64 m) ∧ w7.drew.cell? ⟨w.heap.size, 3, none⟩ = some (.slice A' P.length c') ∧ w7.drew.cell? ⟨w.heap.size, 4, none⟩ = some (.int .i64 b) ∧ w7.drew.cell? ⟨w.heap.size, 5, none⟩ = some (.int .i64 t') ∧ w7.drew.cell? ⟨pg, po + k, none⟩ = some (.int .i64 x) := ⟨(Below.refl _ _).drew, K7.cell 0, K7.cell 1, K7.cell 2, K7.cell 3, K7.cell 4, K7.cell 5, x7⟩
          refine wp_region_held_drew (S := (fun W => Below w7.heap.size w7 W ∧ W.cell? ⟨w.heap.size, 0, none⟩ = some (.int .i64 o) ∧ W.cell? ⟨w.heap.size, 1, none⟩ = some (.int .i64 l) ∧ W.cell? ⟨w.heap.size, 2, none⟩ = some (.int .i64 m) ∧ W.cell? ⟨w.heap.size, 3, none⟩ = some (.slice A' P.length c') ∧ W.cell? ⟨w.heap.size, 4, none⟩ = some (.int .i64 b) ∧ W.cell? ⟨w.heap.size, 5, none⟩ = some (.int .i64 t') ∧ W.cell? ⟨pg, po + k, none⟩ = some (.int .i64 x))) (by kernel_rfl) (by first | assumption | exact s7 | exact keep7 (by assumption) (by assumption)) (fun hHeld => ?_)
          refine wpAnyH_take (i := 0) (oi := { dst := some 24, op := Op.move (Operand.tmp 1), type := 38, pos := "l2_words.go:192", after := #[], guard := none }) (v := ?_) rfl (by kernel_rfl) (by kernel_rfl) (by kernel_rfl) (fun _ _ _ h => h) (Or.inl ⟨by rfl, ?_⟩) (by assumption) ?_; rotate_left
          · intro W hW; (try dsimp only at hW); go_simp;  try (with_reducible rfl)
          try simp only [Act.put, List.setIfInBounds_toArray, List.set_cons_zero, List.set_cons_succ]
          refine wpAnyH_take (i := 1) (oi := { dst := some 25, op := Op.move (Operand.tmp 10), type := 3, pos := "l2_words.go:192", after := #[], guard := none }) (v := ?_) rfl (by kernel_rfl) (by kernel_rfl) (by kernel_rfl) (fun _ _ _ h => h) (Or.inl ⟨by rfl, ?_⟩) (by assumption) ?_; rotate_left
          · intro W hW; (try dsimp only at hW); go_simp;  try (with_reducible rfl)
          try simp only [Act.put, List.setIfInBounds_toArray, List.set_cons_zero, List.set_cons_succ]
          refine wpAnyH_take (i := 2) (oi := { dst := some 26, op := Op.indexAddr 38 (Operand.tmp 24) (Operand.tmp 25), type := 0, pos := "l2_words.go:192", after := #[{ on := 0, ground := Ground.data }, { on := 1, ground := Ground.data }], guard := none }) (v := ?_) rfl (by kernel_rfl) (by kernel_rfl) (by kernel_rfl) (fun _ _ _ h => h) (Or.inl ⟨by rfl, ?_⟩) (by assumption) ?_; rotate_left
          · intro W hW; (try dsimp only at hW); go_simp;  try (with_reducible rfl)
          try simp only [Act.put, List.setIfInBounds_toArray, List.set_cons_zero, List.set_cons_succ]
          refine wpAnyH_take (i := 3) (oi := { dst := some 27, op := Op.load 3 (Operand.tmp 26), type := 3, pos := "l2_words.go:192", after := #[{ on := 2, ground := Ground.data }], guard := none }) (v := ?_) rfl (by kernel_rfl) (by kernel_rfl) (by kernel_rfl) (fun _ _ _ h => h) (Or.inl ⟨by rfl, ?_⟩) (by assumption) ?_; rotate_left
          · intro W hW; (try dsimp only at hW); go_simp;  try (with_reducible rfl)
          try simp only [Act.put, List.setIfInBounds_toArray, List.set_cons_zero, List.set_cons_succ]
          refine wpAnyH_take (i := 4) (oi := { dst := some 28, op := Op.fieldAddr 31 (Operand.tmp 2) 0, type := 0, pos := "l2_words.go:192", after := #[], guard := none }) (v := ?_) rfl (by kernel_rfl) (by kernel_rfl) (by kernel_rfl) (fun _ _ _ h => h) (Or.inl ⟨by rfl, ?_⟩) (by assumption) ?_; rotate_left
          · intro W hW; (try dsimp only at hW); go_simp;  try (with_reducible rfl)
          try simp only [Act.put, List.setIfInBounds_toArray, List.set_cons_zero, List.set_cons_succ]
          refine wpAnyH_take (i := 5) (oi := { dst := some 29, op := Op.load 28 (Operand.tmp 28), type := 28, pos := "l2_words.go:192", after := #[{ on := 4, ground := Ground.data }], guard := none }) (v := ?_) rfl (by kernel_rfl) (by kernel_rfl) (by kernel_rfl) (fun _ _ _ h => h) (Or.inl ⟨by rfl, ?_⟩) (by assumption) ?_; rotate_left
          · intro W hW; (try dsimp only at hW); go_simp;  try (with_reducible rfl)
          try simp only [Act.put, List.setIfInBounds_toArray, List.set_cons_zero, List.set_cons_succ]
          refine wpAnyH_ready (rs := [6]) (by kernel_rfl) (by simp) (AllReadyH.cons (i := 6) (o := { dst := some 30, op := Op.call { callee := Callee.value (Operand.func 87), args := #[Operand.tmp 29], argTypes := #[28] }, type := 3, pos := "l2_words.go:192", after := #[{ on := 5, ground := Ground.data }], guard := none }) rfl (fun K hK => ?_) AllReadyH.nil)
          go_simp
          refine ((unhide CE) _).mono ?_; rintro e w8 ⟨rfl, hb⟩
          try go_wp2_with fail
          refine hK.out _ _ (by (try dsimp only); first | assumption | exact s7 | exact keep7 (by assumption) (by assumption)) (fun hHeld => ?_)
          clear hK K
          try simp only [Act.put, List.setIfInBounds_toArray, List.set_cons_zero, List.set_cons_succ]
          refine wpAnyH_take (i := 7) (oi := { dst := some 31, op := Op.binOp BinOp.eql 3 (Operand.tmp 27) (Operand.tmp 30) 3, type := 4, pos := "l2_words.go:192", after := #[{ on := 3, ground := Ground.data }, { on := 6, ground := Ground.data }], guard := none }) (v := ?_) rfl (by kernel_rfl) (by kernel_rfl) (by kernel_rfl) (fun _ _ _ h => h) (Or.inl ⟨by rfl, ?_⟩) (by assumption) ?_; rotate_left
          · intro W hW; (try dsimp only at hW); go_simp;  try (with_reducible rfl)
          try simp only [Act.put, List.setIfInBounds_toArray, List.set_cons_zero, List.set_cons_succ]
          refine wpAnyH_done (by kernel_rfl) ?_ _
          have hb := hHeld.1
          clear hHeld s7 x7
          have W8 := own_below W7 hb
          have D8 := own_below D7 hb
          have P8 := PK.below P7 hb
          have K8 := K7.below hb K7.lt
          have R8 := R7.below hb R7.lt
          have B8 := below_next (Nat.le_refl _) B7 hb
          clear W7 D7 P7 K7 R7 B7 hb
          have s8 : Below w.heap.size w w8.drew ∧ w8.drew.cell? ⟨w.heap.size, 0, none⟩ = some (.int .i64 o) ∧ w8.drew.cell? ⟨w.heap.size, 1, none⟩ = some (.int .i64 l) ∧ w8.drew.cell? ⟨w.heap.size, 2, none⟩ = some (.int .i64 m) ∧ w8.drew.cell? ⟨w.heap.size, 3, none⟩ = some (.slice A' P.length c') ∧ w8.drew.cell? ⟨w.heap.size, 4, none⟩ = some (.int .i64 b) ∧ w8.drew.cell? ⟨w.heap.size, 5, none⟩ = some (.int .i64 t') ∧ w8.drew.ownsRow w.heap.size 5 1 (.slice Ad ds.length cd) ds.length (bvals ds) := ⟨B8.drew, K8.cell 0, K8.cell 1, K8.cell 2, K8.cell 3, K8.cell 4, K8.cell 5, own_drew D8⟩
          go_wp2_with fail
          refine wp_region_held_drew (S := (fun W => Below w.heap.size w W ∧ W.cell? ⟨w.heap.size, 0, none⟩ = some (.int .i64 o) ∧ W.cell? ⟨w.heap.size, 1, none⟩ = some (.int .i64 l) ∧ W.cell? ⟨w.heap.size, 2, none⟩ = some (.int .i64 m) ∧ W.cell? ⟨w.heap.size, 3, none⟩ = some (.slice A' P.length c') ∧ W.cell? ⟨w.heap.size, 4, none⟩ = some (.int .i64 b) ∧ W.cell? ⟨w.heap.size, 5, none⟩ = some (.int .i64 t') ∧ W.ownsRow w.heap.size 5 1 (.slice Ad ds.length cd) ds.length (bvals ds))) (by kernel_rfl) (by first | assumption | exact s8) (fun hHeld => ?_)
          refine wpAnyH_take (i := 0) (oi := { dst := some 32, op := Op.load 31 (Operand.tmp 2), type := 31, pos := "l2_words.go:193", after := #[], guard := none }) (v := ?_) rfl (by kernel_rfl) (by kernel_rfl) (by kernel_rfl) (fun _ _ _ h => h) (Or.inl ⟨by rfl, ?_⟩) (by assumption) ?_; rotate_left
          · intro W hW; (try dsimp only at hW); go_simp;  try (with_reducible rfl)
          try simp only [Act.put, List.setIfInBounds_toArray, List.set_cons_zero, List.set_cons_succ]
          refine wpAnyH_take (i := 1) (oi := { dst := some 33, op := Op.move (Operand.tmp 8), type := 38, pos := "l2_words.go:193", after := #[{ on := 9, ground := Ground.gcOnly Departure.lateStores }], guard := none }) (v := ?_) rfl (by kernel_rfl) (by kernel_rfl) (by kernel_rfl) (fun _ _ _ h => h) (Or.inl ⟨by rfl, ?_⟩) (by assumption) ?_; rotate_left
          · intro W hW; (try dsimp only at hW); go_simp;  try (with_reducible rfl)
          try simp only [Act.put, List.setIfInBounds_toArray, List.set_cons_zero, List.set_cons_succ]
          refine wpAnyH_take (i := 2) (oi := { dst := some 34, op := Op.move (Operand.tmp 9), type := 48, pos := "l2_words.go:193", after := #[{ on := 10, ground := Ground.gcOnly Departure.lateStores }], guard := none }) (v := ?_) rfl (by kernel_rfl) (by kernel_rfl) (by kernel_rfl) (fun _ _ _ h => h) (Or.inl ⟨by rfl, ?_⟩) (by assumption) ?_; rotate_left
          · intro W hW; (try dsimp only at hW); go_simp;  try (with_reducible rfl)
          try simp only [Act.put, List.setIfInBounds_toArray, List.set_cons_zero, List.set_cons_succ]
          refine wpAnyH_take (i := 3) (oi := { dst := some 35, op := Op.convert 48 9 (Operand.tmp 34), type := 9, pos := "l2_words.go:193", after := #[{ on := 2, ground := Ground.data }, { on := 10, ground := Ground.gcOnly Departure.lateStores }], guard := none }) (v := ?_) rfl (by kernel_rfl) (by kernel_rfl) (by kernel_rfl) (fun _ _ _ h => h) (Or.inl ⟨by rfl, ?_⟩) (by assumption) ?_; rotate_left
          · intro W hW; have hcv := run_own_string (P := Try.prog) W 48 9 5 Try.underlying48 Try.underlying5 Try.underlying9 hW.2.2.2.2.2.2.2; (try dsimp only at hW); go_simp;  try (with_reducible rfl)
          try simp only [Act.put, List.setIfInBounds_toArray, List.set_cons_zero, List.set_cons_succ]
          refine wpAnyH_take (i := 4) (oi := { dst := some 36, op := Op.move (Operand.tmp 10), type := 3, pos := "l2_words.go:193", after := #[{ on := 11, ground := Ground.gcOnly Departure.lateStores }], guard := none }) (v := ?_) rfl (by kernel_rfl) (by kernel_rfl) (by kernel_rfl) (fun _ _ _ h => h) (Or.inl ⟨by rfl, ?_⟩) (by assumption) ?_; rotate_left
          · intro W hW; (try dsimp only at hW); go_simp;  try (with_reducible rfl)
          try simp only [Act.put, List.setIfInBounds_toArray, List.set_cons_zero, List.set_cons_succ]
          refine wpAnyH_take (i := 5) (oi := { dst := some 37, op := Op.move (Operand.tmp 1), type := 38, pos := "l2_words.go:193", after := #[], guard := none }) (v := ?_) rfl (by kernel_rfl) (by kernel_rfl) (by kernel_rfl) (fun _ _ _ h => h) (Or.inl ⟨by rfl, ?_⟩) (by assumption) ?_; rotate_left
          · intro W hW; (try dsimp only at hW); go_simp;  try (with_reducible rfl)
          try simp only [Act.put, List.setIfInBounds_toArray, List.set_cons_zero, List.set_cons_succ]
          refine wpAnyH_take (i := 6) (oi := { dst := some 38, op := Op.call { callee := Callee.builtin Builtin.len, args := #[Operand.tmp 37], argTypes := #[38] }, type := 3, pos := "l2_words.go:193", after := #[{ on := 5, ground := Ground.data }], guard := none }) (v := ?_) rfl (by kernel_rfl) (by kernel_rfl) (by kernel_rfl) (fun _ _ _ h => h) (Or.inl ⟨by rfl, ?_⟩) (by assumption) ?_; rotate_left
          · intro W hW; (try dsimp only at hW); go_simp;  try (with_reducible rfl)
          try simp only [Act.put, List.setIfInBounds_toArray, List.set_cons_zero, List.set_cons_succ]
          refine wpAnyH_take (i := 7) (oi := { dst := some 39, op := Op.binOp BinOp.sub 3 (Operand.tmp 38) (Operand.const (Value.int IntKind.i64 1)) 3, type := 3, pos := "l2_words.go:193", after := #[{ on := 6, ground := Ground.data }, { on := 11, ground := Ground.gcOnly Departure.lateStores }], guard := none }) (v := ?_) rfl (by kernel_rfl) (by kernel_rfl) (by kernel_rfl) (fun _ _ _ h => h) (Or.inl ⟨by rfl, ?_⟩) (by assumption) ?_; rotate_left
          · intro W hW; (try dsimp only at hW); go_simp;  try (with_reducible rfl)
          try simp only [Act.put, List.setIfInBounds_toArray, List.set_cons_zero, List.set_cons_succ]
          refine wpAnyH_take (i := 8) (oi := { dst := some 40, op := Op.binOp BinOp.eql 3 (Operand.tmp 36) (Operand.tmp 39) 3, type := 4, pos := "l2_words.go:193", after := #[{ on := 4, ground := Ground.data }, { on := 7, ground := Ground.data }, { on := 11, ground := Ground.gcOnly Departure.lateStores }], guard := none }) (v := ?_) rfl (by kernel_rfl) (by kernel_rfl) (by kernel_rfl) (fun _ _ _ h => h) (Or.inl ⟨by rfl, ?_⟩) (by assumption) ?_; rotate_left
          · intro W hW; (try dsimp only at hW); go_simp;  try (with_reducible rfl)
          try simp only [Act.put, List.setIfInBounds_toArray, List.set_cons_zero, List.set_cons_succ]
          refine wpAnyH_ready (rs := [9]) (by kernel_rfl) (by simp) (AllReadyH.cons (i := 9) (o := { dst := none, op := Op.store 31 (Operand.tmp 4) (Operand.tmp 32), type := 0, pos := "l2_words.go:193", after := #[{ on := 0, ground := Ground.data }, { on := 0, ground := Ground.phase }, { on := 1, ground := Ground.textOnly Departure.lateStores }, { on := 2, ground := Ground.textOnly Departure.lateStores }, { on := 3, ground := Ground.textOnly Departure.lateStores }, { on := 4, ground := Ground.textOnly Departure.lateStores }, { on := 5, ground := Ground.textOnly Departure.lateStores }, { on := 6, ground := Ground.textOnly Departure.lateStoresUnsure }, { on := 7, ground := Ground.textOnly Departure.lateStores }, { on := 8, ground := Ground.textOnly Departure.lateStores }], guard := none }) rfl (fun K hK => ?_) AllReadyH.nil)
          have r0 : w8.cell? ⟨(w.heap.size + 1), 0, none⟩ = some (.int .i64 0) := R8.cell 0
          have r1 : w8.cell? ⟨(w.heap.size + 1), 1, none⟩ = some (.int .i64 0) := R8.cell 1
          have r2 : w8.cell? ⟨(w.heap.size + 1), 2, none⟩ = some (.int .i64 0) := R8.cell 2
          have r3 : w8.cell? ⟨(w.heap.size + 1), 3, none⟩ = some (.slice none 0 0) := R8.cell 3
          have r4 : w8.cell? ⟨(w.heap.size + 1), 4, none⟩ = some (.int .i64 0) := R8.cell 4
          have r5 : w8.cell? ⟨(w.heap.size + 1), 5, none⟩ = some (.int .i64 0) := R8.cell 5
          have fr0 := R8.frozen 0
          have fr1 := R8.frozen 1
          have fr2 := R8.frozen 2
          have fr3 := R8.frozen 3
          have fr4 := R8.frozen 4
          have fr5 := R8.frozen 5
          have RS := blk6_set R8 (.int .i64 o) (.int .i64 l) (.int .i64 m) (.slice A' P.length c') (.int .i64 b) (.int .i64 t')
          have HG := hide (only6 w8 (w.heap.size + 1) (.int .i64 o) (.int .i64 l) (.int .i64 m) (.slice A' P.length c') (.int .i64 b) (.int .i64 t'))
          have WS := W8.kept HG.out (.inr (own_blk_ne W8 R8 (by decide)))
          have DS := D8.kept HG.out (.inr (own_blk_ne D8 R8 (by decide)))
          have KS := K8.far6 (g := w.heap.size + 1) (by omega) (.int .i64 o) (.int .i64 l) (.int .i64 m) (.slice A' P.length c') (.int .i64 b) (.int .i64 t')
          have BS := below_set6 (g := w.heap.size + 1) B8 (by omega) (.int .i64 o) (.int .i64 l) (.int .i64 m) (.slice A' P.length c') (.int .i64 b) (.int .i64 t')
          have HS : Below w.heap.size w ((((((w8.setCell ⟨w.heap.size + 1, 0, none⟩ (.int .i64 o)).setCell ⟨w.heap.size + 1, 1, none⟩ (.int .i64 l)).setCell ⟨w.heap.size + 1, 2, none⟩ (.int .i64 m)).setCell ⟨w.heap.size + 1, 3, none⟩ (.slice A' P.length c')).setCell ⟨w.heap.size + 1, 4, none⟩ (.int .i64 b)).setCell ⟨w.heap.size + 1, 5, none⟩ (.int .i64 t')).drew ∧ ((((((w8.setCell ⟨w.heap.size + 1, 0, none⟩ (.int .i64 o)).setCell ⟨w.heap.size + 1, 1, none⟩ (.int .i64 l)).setCell ⟨w.heap.size + 1, 2, none⟩ (.int .i64 m)).setCell ⟨w.heap.size + 1, 3, none⟩ (.slice A' P.length c')).setCell ⟨w.heap.size + 1, 4, none⟩ (.int .i64 b)).setCell ⟨w.heap.size + 1, 5, none⟩ (.int .i64 t')).drew.cell? ⟨w.heap.size, 0, none⟩ = some (.int .i64 o) ∧ ((((((w8.setCell ⟨w.heap.size + 1, 0, none⟩ (.int .i64 o)).setCell ⟨w.heap.size + 1, 1, none⟩ (.int .i64 l)).setCell ⟨w.heap.size + 1, 2, none⟩ (.int .i64 m)).setCell ⟨w.heap.size + 1, 3, none⟩ (.slice A' P.length c')).setCell ⟨w.heap.size + 1, 4, none⟩ (.int .i64 b)).setCell ⟨w.heap.size + 1, 5, none⟩ (.int .i64 t')).drew.cell? ⟨w.heap.size, 1, none⟩ = some (.int .i64 l) ∧ ((((((w8.setCell ⟨w.heap.size + 1, 0, none⟩ (.int .i64 o)).setCell ⟨w.heap.size + 1, 1, none⟩ (.int .i64 l)).setCell ⟨w.heap.size + 1, 2, none⟩ (.int .i64 m)).setCell ⟨w.heap.size + 1, 3, none⟩ (.slice A' P.length c')).setCell ⟨w.heap.size + 1, 4, none⟩ (.int .i64 b)).setCell ⟨w.heap.size + 1, 5, none⟩ (.int .i64 t')).drew.cell? ⟨w.heap.size, 2, none⟩ = some (.int .i64 m) ∧ ((((((w8.setCell ⟨w.heap.size + 1, 0, none⟩ (.int .i64 o)).setCell ⟨w.heap.size + 1, 1, none⟩ (.int .i64 l)).setCell ⟨w.heap.size + 1, 2, none⟩ (.int .i64 m)).setCell ⟨w.heap.size + 1, 3, none⟩ (.slice A' P.length c')).setCell ⟨w.heap.size + 1, 4, none⟩ (.int .i64 b)).setCell ⟨w.heap.size + 1, 5, none⟩ (.int .i64 t')).drew.cell? ⟨w.heap.size, 3, none⟩ = some (.slice A' P.length c') ∧ ((((((w8.setCell ⟨w.heap.size + 1, 0, none⟩ (.int .i64 o)).setCell ⟨w.heap.size + 1, 1, none⟩ (.int .i64 l)).setCell ⟨w.heap.size + 1, 2, none⟩ (.int .i64 m)).setCell ⟨w.heap.size + 1, 3, none⟩ (.slice A' P.length c')).setCell ⟨w.heap.size + 1, 4, none⟩ (.int .i64 b)).setCell ⟨w.heap.size + 1, 5, none⟩ (.int .i64 t')).drew.cell? ⟨w.heap.size, 4, none⟩ = some (.int .i64 b) ∧ ((((((w8.setCell ⟨w.heap.size + 1, 0, none⟩ (.int .i64 o)).setCell ⟨w.heap.size + 1, 1, none⟩ (.int .i64 l)).setCell ⟨w.heap.size + 1, 2, none⟩ (.int .i64 m)).setCell ⟨w.heap.size + 1, 3, none⟩ (.slice A' P.length c')).setCell ⟨w.heap.size + 1, 4, none⟩ (.int .i64 b)).setCell ⟨w.heap.size + 1, 5, none⟩ (.int .i64 t')).drew.cell? ⟨w.heap.size, 5, none⟩ = some (.int .i64 t') ∧ ((((((w8.setCell ⟨w.heap.size + 1, 0, none⟩ (.int .i64 o)).setCell ⟨w.heap.size + 1, 1, none⟩ (.int .i64 l)).setCell ⟨w.heap.size + 1, 2, none⟩ (.int .i64 m)).setCell ⟨w.heap.size + 1, 3, none⟩ (.slice A' P.length c')).setCell ⟨w.heap.size + 1, 4, none⟩ (.int .i64 b)).setCell ⟨w.heap.size + 1, 5, none⟩ (.int .i64 t')).drew.ownsRow w.heap.size 5 1 (.slice Ad ds.length cd) ds.length (bvals ds) := ⟨BS.drew, (Blk.drew KS).cell 0, (Blk.drew KS).cell 1, (Blk.drew KS).cell 2, (Blk.drew KS).cell 3, (Blk.drew KS).cell 4, (Blk.drew KS).cell 5, own_drew DS⟩
          go_simp
          clear r0 fr0 r1 fr1 r2 fr2 r3 fr3 r4 fr4 r5 fr5 HG
          refine hK.out _ _ (by (try dsimp only); first | exact HS) (fun hHeld => ?_)
          clear hK K
          try simp only [Act.put, List.setIfInBounds_toArray, List.set_cons_zero, List.set_cons_succ]
          refine wpAnyH_take (i := 10) (oi := { dst := some 5, op := Op.assign (Operand.tmp 33), type := 38, pos := "l2_words.go:193", after := #[{ on := 1, ground := Ground.data }, { on := 9, ground := Ground.chain }, { on := 0, ground := Ground.phase }, { on := 1, ground := Ground.phase }, { on := 2, ground := Ground.textOnly Departure.lateStores }, { on := 3, ground := Ground.textOnly Departure.lateStores }, { on := 4, ground := Ground.textOnly Departure.lateStores }, { on := 5, ground := Ground.textOnly Departure.lateStores }, { on := 6, ground := Ground.textOnly Departure.lateStoresUnsure }, { on := 7, ground := Ground.textOnly Departure.lateStores }, { on := 8, ground := Ground.textOnly Departure.lateStores }, { on := 9, ground := Ground.phase }], guard := none }) (v := ?_) rfl (by kernel_rfl) (by kernel_rfl) (by kernel_rfl) (fun _ _ _ h => h) (Or.inl ⟨by rfl, ?_⟩) (by assumption) ?_; rotate_left
          · intro W hW; (try dsimp only at hW); go_simp;  try (with_reducible rfl)
          try simp only [Act.put, List.setIfInBounds_toArray, List.set_cons_zero, List.set_cons_succ]
          refine wpAnyH_take (i := 11) (oi := { dst := some 6, op := Op.assign (Operand.tmp 35), type := 9, pos := "l2_words.go:193", after := #[{ on := 3, ground := Ground.data }, { on := 10, ground := Ground.chain }, { on := 0, ground := Ground.phase }, { on := 1, ground := Ground.phase }, { on := 2, ground := Ground.phase }, { on := 3, ground := Ground.phase }, { on := 4, ground := Ground.textOnly Departure.lateStores }, { on := 5, ground := Ground.textOnly Departure.lateStores }, { on := 6, ground := Ground.textOnly Departure.lateStoresUnsure }, { on := 7, ground := Ground.textOnly Departure.lateStores }, { on := 8, ground := Ground.textOnly Departure.lateStores }, { on := 9, ground := Ground.phase }, { on := 10, ground := Ground.phase }], guard := none }) (v := ?_) rfl (by kernel_rfl) (by kernel_rfl) (by kernel_rfl) (fun _ _ _ h => h) (Or.inl ⟨by rfl, ?_⟩) (by assumption) ?_; rotate_left
          · intro W hW; (try dsimp only at hW); go_simp;  try (with_reducible rfl)
          try simp only [Act.put, List.setIfInBounds_toArray, List.set_cons_zero, List.set_cons_succ]
          refine wpAnyH_take (i := 12) (oi := { dst := some 7, op := Op.assign (Operand.tmp 40), type := 4, pos := "l2_words.go:193", after := #[{ on := 8, ground := Ground.data }, { on := 11, ground := Ground.chain }, { on := 0, ground := Ground.phase }, { on := 1, ground := Ground.phase }, { on := 2, ground := Ground.phase }, { on := 3, ground := Ground.phase }, { on := 4, ground := Ground.phase }, { on := 5, ground := Ground.phase }, { on := 6, ground := Ground.phase }, { on := 7, ground := Ground.phase }, { on := 8, ground := Ground.phase }, { on := 9, ground := Ground.phase }, { on := 10, ground := Ground.phase }, { on := 11, ground := Ground.phase }], guard := none }) (v := ?_) rfl (by kernel_rfl) (by kernel_rfl) (by kernel_rfl) (fun _ _ _ h => h) (Or.inl ⟨by rfl, ?_⟩) (by assumption) ?_; rotate_left
          · intro W hW; (try dsimp only at hW); go_simp;  try (with_reducible rfl)
          try simp only [Act.put, List.setIfInBounds_toArray, List.set_cons_zero, List.set_cons_succ]
          refine wpAnyH_done (by kernel_rfl) ?_ _
          clear hHeld s8
          go_wp2_with fail
          have q0 := (Blk.drew RS).cell 0
          have q1 := (Blk.drew RS).cell 1
          have q2 := (Blk.drew RS).cell 2
          have q3 := (Blk.drew RS).cell 3
          have q4 := (Blk.drew RS).cell 4
          have q5 := (Blk.drew RS).cell 5
          exact bodyPost_ret (v := .tuple #[kv o l m A' P.length c' b t', .slice Aw2 (ws.length + 1) cw2, .string (str ds), .bool false]) (by simp [results, Try.results72, go_sem, q0, q1, q2, q3, q4, q5]; try rfl) rfl (swalk_ret hw1.symm rfl (OwnI.of_own hw1 (own_drew (own_ints WS))) (by omega) (by omega) HN.out BS.drew)
        · skip
          have HN : Sx.wk l m b xs ps t 0 = Sx.pick true (ws ++ [V]) ds := by
            by_cases hd : ds.length ≤ 2000
            · rw [Sx.pick_yes hd, hV]; exact (Sx.acc_last (HR.out hd) (by omega) HX.out hx1).1
            · rw [Sx.pick_long (by omega)]; exact HM.out (by omega)
          have HN := hide HN
          have ee : (x == Sx.two l + 1) = true := by rw [beq_iff_eq]; exact hx1
          have e1 : IntKind.i64.wrap ((xs.length : Int) - 1) = (xs.length : Int) - 1 := IntWalk.i64_in _ (by omega)
          have e3 : ((k : Int) == (xs.length : Int) - 1) = true := by rw [beq_iff_eq]; omega
          clear hx1 HR HM hV
          go_wp2_with fail
          refine ((unhide CW) _).mono ?_; rintro e w6 ⟨rfl, hb6⟩
          have W6 := own_below W5 hb6
          have D6 := own_below D5 hb6
          have P6 := PK.below P5 hb6
          have K6 := K5.below hb6 K5.lt
          have R6 := R5.below hb6 R5.lt
          have B6 := below_next (Nat.le_refl _) B5 hb6
          clear W5 D5 P5 K5 R5 B5 hb6 CW a0 a1 a2 a3 a4 a5
          go_wp2_with (at_builtin; refine wpList_append_any _ rfl _ _ _ rfl w.heap.size 3 i0 (.int .i64 0) 1 8 Try.underlying38 hi0 hz0 hz1 hz3 (by rfl) (by decide) (.slice Aw ws.length cw) ws.length (ivals ws) rfl (W6.alloc _) _ _ 1 1 [.int .i64 V] rfl (reads_one _ _ _) (by simp [Value.oneCell']) (by simp only [maxLen]; omega) (by omega) (by have := B6.size; simp; omega) ?_; intro v' w7 hown9 hg9 _; have W8 := W6.alloc (.cells #[.int .i64 V] 3); have D7 := own_other (D6.alloc (.cells #[.int .i64 V] 3)) W8 hg9 (by decide); have P7 := PK.other (P6.alloc (.cells #[.int .i64 V] 3)) W8 hg9 (by decide); have K7 := blk_other (K6.alloc (.cells #[.int .i64 V] 3)) W8 hg9 (by decide); have R7 := blk_other (R6.alloc (.cells #[.int .i64 V] 3)) W8 hg9 (by decide); have B7 := (B6.alloc B6.size (.cells #[.int .i64 V] 3)).grown hg9 (by have := B6.size; simp; omega) (fun g hgg => (W8.lt g hgg).1); have W7 := own_nodup hown9; obtain ⟨Aw2, cw2, rfl⟩ := own_shapeN W7; clear W8 hown9 hg9; clear W6 D6 P6 K6 R6 B6)
          have x7 := (B7.cell (p := ⟨pg, po + k, none⟩) hpg).trans hpx
          have s7 : Below w7.heap.size w7 w7.drew ∧ w7.drew.cell? ⟨w.heap.size, 0, none⟩ = some (.int .i64 o) ∧ w7.drew.cell? ⟨w.heap.size, 1, none⟩ = some (.int .i64 l) ∧ w7.drew.cell? ⟨w.heap.size, 2, none⟩ = some (.int .i64 m) ∧ w7.drew.cell? ⟨w.heap.size, 3, none⟩ = some (.slice A' P.length c') ∧ w7.drew.cell? ⟨w.heap.size, 4, none⟩ = some (.int .i64 b) ∧ w7.drew.cell? ⟨w.heap.size, 5, none⟩ = some (.int .i64 t') ∧ w7.drew.cell? ⟨pg, po + k, none⟩ = some (.int .i64 x) := ⟨(Below.refl _ _).drew, K7.cell 0, K7.cell 1, K7.cell 2, K7.cell 3, K7.cell 4, K7.cell 5, x7⟩
          refine wp_region_held_drew (S := (fun W => Below w7.heap.size w7 W ∧ W.cell? ⟨w.heap.size, 0, none⟩ = some (.int .i64 o) ∧ W.cell? ⟨w.heap.size, 1, none⟩ = some (.int .i64 l) ∧ W.cell? ⟨w.heap.size, 2, none⟩ = some (.int .i64 m) ∧ W.cell? ⟨w.heap.size, 3, none⟩ = some (.slice A' P.length c') ∧ W.cell? ⟨w.heap.size, 4, none⟩ = some (.int .i64 b) ∧ W.cell? ⟨w.heap.size, 5, none⟩ = some (.int .i64 t') ∧ W.cell? ⟨pg, po + k, none⟩ = some (.int .i64 x))) (by kernel_rfl) (by first | assumption | exact s7 | exact keep7 (by assumption) (by assumption)) (fun hHeld => ?_)
          refine wpAnyH_take (i := 0) (oi := { dst := some 24, op := Op.move (Operand.tmp 1), type := 38, pos := "l2_words.go:192", after := #[], guard := none }) (v := ?_) rfl (by kernel_rfl) (by kernel_rfl) (by kernel_rfl) (fun _ _ _ h => h) (Or.inl ⟨by rfl, ?_⟩) (by assumption) ?_; rotate_left
          · intro W hW; (try dsimp only at hW); go_simp;  try (with_reducible rfl)
          try simp only [Act.put, List.setIfInBounds_toArray, List.set_cons_zero, List.set_cons_succ]
          refine wpAnyH_take (i := 1) (oi := { dst := some 25, op := Op.move (Operand.tmp 10), type := 3, pos := "l2_words.go:192", after := #[], guard := none }) (v := ?_) rfl (by kernel_rfl) (by kernel_rfl) (by kernel_rfl) (fun _ _ _ h => h) (Or.inl ⟨by rfl, ?_⟩) (by assumption) ?_; rotate_left
          · intro W hW; (try dsimp only at hW); go_simp;  try (with_reducible rfl)
          try simp only [Act.put, List.setIfInBounds_toArray, List.set_cons_zero, List.set_cons_succ]
          refine wpAnyH_take (i := 2) (oi := { dst := some 26, op := Op.indexAddr 38 (Operand.tmp 24) (Operand.tmp 25), type := 0, pos := "l2_words.go:192", after := #[{ on := 0, ground := Ground.data }, { on := 1, ground := Ground.data }], guard := none }) (v := ?_) rfl (by kernel_rfl) (by kernel_rfl) (by kernel_rfl) (fun _ _ _ h => h) (Or.inl ⟨by rfl, ?_⟩) (by assumption) ?_; rotate_left
          · intro W hW; (try dsimp only at hW); go_simp;  try (with_reducible rfl)
          try simp only [Act.put, List.setIfInBounds_toArray, List.set_cons_zero, List.set_cons_succ]
          refine wpAnyH_take (i := 3) (oi := { dst := some 27, op := Op.load 3 (Operand.tmp 26), type := 3, pos := "l2_words.go:192", after := #[{ on := 2, ground := Ground.data }], guard := none }) (v := ?_) rfl (by kernel_rfl) (by kernel_rfl) (by kernel_rfl) (fun _ _ _ h => h) (Or.inl ⟨by rfl, ?_⟩) (by assumption) ?_; rotate_left
          · intro W hW; (try dsimp only at hW); go_simp;  try (with_reducible rfl)
          try simp only [Act.put, List.setIfInBounds_toArray, List.set_cons_zero, List.set_cons_succ]
          refine wpAnyH_take (i := 4) (oi := { dst := some 28, op := Op.fieldAddr 31 (Operand.tmp 2) 0, type := 0, pos := "l2_words.go:192", after := #[], guard := none }) (v := ?_) rfl (by kernel_rfl) (by kernel_rfl) (by kernel_rfl) (fun _ _ _ h => h) (Or.inl ⟨by rfl, ?_⟩) (by assumption) ?_; rotate_left
          · intro W hW; (try dsimp only at hW); go_simp;  try (with_reducible rfl)
          try simp only [Act.put, List.setIfInBounds_toArray, List.set_cons_zero, List.set_cons_succ]
          refine wpAnyH_take (i := 5) (oi := { dst := some 29, op := Op.load 28 (Operand.tmp 28), type := 28, pos := "l2_words.go:192", after := #[{ on := 4, ground := Ground.data }], guard := none }) (v := ?_) rfl (by kernel_rfl) (by kernel_rfl) (by kernel_rfl) (fun _ _ _ h => h) (Or.inl ⟨by rfl, ?_⟩) (by assumption) ?_; rotate_left
          · intro W hW; (try dsimp only at hW); go_simp;  try (with_reducible rfl)
          try simp only [Act.put, List.setIfInBounds_toArray, List.set_cons_zero, List.set_cons_succ]
          refine wpAnyH_ready (rs := [6]) (by kernel_rfl) (by simp) (AllReadyH.cons (i := 6) (o := { dst := some 30, op := Op.call { callee := Callee.value (Operand.func 87), args := #[Operand.tmp 29], argTypes := #[28] }, type := 3, pos := "l2_words.go:192", after := #[{ on := 5, ground := Ground.data }], guard := none }) rfl (fun K hK => ?_) AllReadyH.nil)
          go_simp
          refine ((unhide CE) _).mono ?_; rintro e w8 ⟨rfl, hb⟩
          try go_wp2_with fail
          refine hK.out _ _ (by (try dsimp only); first | assumption | exact s7 | exact keep7 (by assumption) (by assumption)) (fun hHeld => ?_)
          clear hK K
          try simp only [Act.put, List.setIfInBounds_toArray, List.set_cons_zero, List.set_cons_succ]
          refine wpAnyH_take (i := 7) (oi := { dst := some 31, op := Op.binOp BinOp.eql 3 (Operand.tmp 27) (Operand.tmp 30) 3, type := 4, pos := "l2_words.go:192", after := #[{ on := 3, ground := Ground.data }, { on := 6, ground := Ground.data }], guard := none }) (v := ?_) rfl (by kernel_rfl) (by kernel_rfl) (by kernel_rfl) (fun _ _ _ h => h) (Or.inl ⟨by rfl, ?_⟩) (by assumption) ?_; rotate_left
          · intro W hW; (try dsimp only at hW); go_simp;  try (with_reducible rfl)
          try simp only [Act.put, List.setIfInBounds_toArray, List.set_cons_zero, List.set_cons_succ]
          refine wpAnyH_done (by kernel_rfl) ?_ _
          have hb := hHeld.1
          clear hHeld s7 x7
          have W8 := own_below W7 hb
          have D8 := own_below D7 hb
          have P8 := PK.below P7 hb
          have K8 := K7.below hb K7.lt
          have R8 := R7.below hb R7.lt
          have B8 := below_next (Nat.le_refl _) B7 hb
          clear W7 D7 P7 K7 R7 B7 hb
          have s8 : Below w.heap.size w w8.drew ∧ w8.drew.cell? ⟨w.heap.size, 0, none⟩ = some (.int .i64 o) ∧ w8.drew.cell? ⟨w.heap.size, 1, none⟩ = some (.int .i64 l) ∧ w8.drew.cell? ⟨w.heap.size, 2, none⟩ = some (.int .i64 m) ∧ w8.drew.cell? ⟨w.heap.size, 3, none⟩ = some (.slice A' P.length c') ∧ w8.drew.cell? ⟨w.heap.size, 4, none⟩ = some (.int .i64 b) ∧ w8.drew.cell? ⟨w.heap.size, 5, none⟩ = some (.int .i64 t') ∧ w8.drew.ownsRow w.heap.size 5 1 (.slice Ad ds.length cd) ds.length (bvals ds) := ⟨B8.drew, K8.cell 0, K8.cell 1, K8.cell 2, K8.cell 3, K8.cell 4, K8.cell 5, own_drew D8⟩
          go_wp2_with fail
          refine wp_region_held_drew (S := (fun W => Below w.heap.size w W ∧ W.cell? ⟨w.heap.size, 0, none⟩ = some (.int .i64 o) ∧ W.cell? ⟨w.heap.size, 1, none⟩ = some (.int .i64 l) ∧ W.cell? ⟨w.heap.size, 2, none⟩ = some (.int .i64 m) ∧ W.cell? ⟨w.heap.size, 3, none⟩ = some (.slice A' P.length c') ∧ W.cell? ⟨w.heap.size, 4, none⟩ = some (.int .i64 b) ∧ W.cell? ⟨w.heap.size, 5, none⟩ = some (.int .i64 t') ∧ W.ownsRow w.heap.size 5 1 (.slice Ad ds.length cd) ds.length (bvals ds))) (by kernel_rfl) (by first | assumption | exact s8) (fun hHeld => ?_)
          refine wpAnyH_take (i := 0) (oi := { dst := some 32, op := Op.load 31 (Operand.tmp 2), type := 31, pos := "l2_words.go:193", after := #[], guard := none }) (v := ?_) rfl (by kernel_rfl) (by kernel_rfl) (by kernel_rfl) (fun _ _ _ h => h) (Or.inl ⟨by rfl, ?_⟩) (by assumption) ?_; rotate_left
          · intro W hW; (try dsimp only at hW); go_simp;  try (with_reducible rfl)
          try simp only [Act.put, List.setIfInBounds_toArray, List.set_cons_zero, List.set_cons_succ]
          refine wpAnyH_take (i := 1) (oi := { dst := some 33, op := Op.move (Operand.tmp 8), type := 38, pos := "l2_words.go:193", after := #[{ on := 9, ground := Ground.gcOnly Departure.lateStores }], guard := none }) (v := ?_) rfl (by kernel_rfl) (by kernel_rfl) (by kernel_rfl) (fun _ _ _ h => h) (Or.inl ⟨by rfl, ?_⟩) (by assumption) ?_; rotate_left
          · intro W hW; (try dsimp only at hW); go_simp;  try (with_reducible rfl)
          try simp only [Act.put, List.setIfInBounds_toArray, List.set_cons_zero, List.set_cons_succ]
          refine wpAnyH_take (i := 2) (oi := { dst := some 34, op := Op.move (Operand.tmp 9), type := 48, pos := "l2_words.go:193", after := #[{ on := 10, ground := Ground.gcOnly Departure.lateStores }], guard := none }) (v := ?_) rfl (by kernel_rfl) (by kernel_rfl) (by kernel_rfl) (fun _ _ _ h => h) (Or.inl ⟨by rfl, ?_⟩) (by assumption) ?_; rotate_left
          · intro W hW; (try dsimp only at hW); go_simp;  try (with_reducible rfl)
          try simp only [Act.put, List.setIfInBounds_toArray, List.set_cons_zero, List.set_cons_succ]
          refine wpAnyH_take (i := 3) (oi := { dst := some 35, op := Op.convert 48 9 (Operand.tmp 34), type := 9, pos := "l2_words.go:193", after := #[{ on := 2, ground := Ground.data }, { on := 10, ground := Ground.gcOnly Departure.lateStores }], guard := none }) (v := ?_) rfl (by kernel_rfl) (by kernel_rfl) (by kernel_rfl) (fun _ _ _ h => h) (Or.inl ⟨by rfl, ?_⟩) (by assumption) ?_; rotate_left
          · intro W hW; have hcv := run_own_string (P := Try.prog) W 48 9 5 Try.underlying48 Try.underlying5 Try.underlying9 hW.2.2.2.2.2.2.2; (try dsimp only at hW); go_simp;  try (with_reducible rfl)
          try simp only [Act.put, List.setIfInBounds_toArray, List.set_cons_zero, List.set_cons_succ]
          refine wpAnyH_take (i := 4) (oi := { dst := some 36, op := Op.move (Operand.tmp 10), type := 3, pos := "l2_words.go:193", after := #[{ on := 11, ground := Ground.gcOnly Departure.lateStores }], guard := none }) (v := ?_) rfl (by kernel_rfl) (by kernel_rfl) (by kernel_rfl) (fun _ _ _ h => h) (Or.inl ⟨by rfl, ?_⟩) (by assumption) ?_; rotate_left
          · intro W hW; (try dsimp only at hW); go_simp;  try (with_reducible rfl)
          try simp only [Act.put, List.setIfInBounds_toArray, List.set_cons_zero, List.set_cons_succ]
          refine wpAnyH_take (i := 5) (oi := { dst := some 37, op := Op.move (Operand.tmp 1), type := 38, pos := "l2_words.go:193", after := #[], guard := none }) (v := ?_) rfl (by kernel_rfl) (by kernel_rfl) (by kernel_rfl) (fun _ _ _ h => h) (Or.inl ⟨by rfl, ?_⟩) (by assumption) ?_; rotate_left
          · intro W hW; (try dsimp only at hW); go_simp;  try (with_reducible rfl)
          try simp only [Act.put, List.setIfInBounds_toArray, List.set_cons_zero, List.set_cons_succ]
          refine wpAnyH_take (i := 6) (oi := { dst := some 38, op := Op.call { callee := Callee.builtin Builtin.len, args := #[Operand.tmp 37], argTypes := #[38] }, type := 3, pos := "l2_words.go:193", after := #[{ on := 5, ground := Ground.data }], guard := none }) (v := ?_) rfl (by kernel_rfl) (by kernel_rfl) (by kernel_rfl) (fun _ _ _ h => h) (Or.inl ⟨by rfl, ?_⟩) (by assumption) ?_; rotate_left
          · intro W hW; (try dsimp only at hW); go_simp;  try (with_reducible rfl)
          try simp only [Act.put, List.setIfInBounds_toArray, List.set_cons_zero, List.set_cons_succ]
          refine wpAnyH_take (i := 7) (oi := { dst := some 39, op := Op.binOp BinOp.sub 3 (Operand.tmp 38) (Operand.const (Value.int IntKind.i64 1)) 3, type := 3, pos := "l2_words.go:193", after := #[{ on := 6, ground := Ground.data }, { on := 11, ground := Ground.gcOnly Departure.lateStores }], guard := none }) (v := ?_) rfl (by kernel_rfl) (by kernel_rfl) (by kernel_rfl) (fun _ _ _ h => h) (Or.inl ⟨by rfl, ?_⟩) (by assumption) ?_; rotate_left
          · intro W hW; (try dsimp only at hW); go_simp;  try (with_reducible rfl)
          try simp only [Act.put, List.setIfInBounds_toArray, List.set_cons_zero, List.set_cons_succ]
          refine wpAnyH_take (i := 8) (oi := { dst := some 40, op := Op.binOp BinOp.eql 3 (Operand.tmp 36) (Operand.tmp 39) 3, type := 4, pos := "l2_words.go:193", after := #[{ on := 4, ground := Ground.data }, { on := 7, ground := Ground.data }, { on := 11, ground := Ground.gcOnly Departure.lateStores }], guard := none }) (v := ?_) rfl (by kernel_rfl) (by kernel_rfl) (by kernel_rfl) (fun _ _ _ h => h) (Or.inl ⟨by rfl, ?_⟩) (by assumption) ?_; rotate_left
          · intro W hW; (try dsimp only at hW); go_simp;  try (with_reducible rfl)
          try simp only [Act.put, List.setIfInBounds_toArray, List.set_cons_zero, List.set_cons_succ]
          refine wpAnyH_ready (rs := [9]) (by kernel_rfl) (by simp) (AllReadyH.cons (i := 9) (o := { dst := none, op := Op.store 31 (Operand.tmp 4) (Operand.tmp 32), type := 0, pos := "l2_words.go:193", after := #[{ on := 0, ground := Ground.data }, { on := 0, ground := Ground.phase }, { on := 1, ground := Ground.textOnly Departure.lateStores }, { on := 2, ground := Ground.textOnly Departure.lateStores }, { on := 3, ground := Ground.textOnly Departure.lateStores }, { on := 4, ground := Ground.textOnly Departure.lateStores }, { on := 5, ground := Ground.textOnly Departure.lateStores }, { on := 6, ground := Ground.textOnly Departure.lateStoresUnsure }, { on := 7, ground := Ground.textOnly Departure.lateStores }, { on := 8, ground := Ground.textOnly Departure.lateStores }], guard := none }) rfl (fun K hK => ?_) AllReadyH.nil)
          have r0 : w8.cell? ⟨(w.heap.size + 1), 0, none⟩ = some (.int .i64 0) := R8.cell 0
          have r1 : w8.cell? ⟨(w.heap.size + 1), 1, none⟩ = some (.int .i64 0) := R8.cell 1
          have r2 : w8.cell? ⟨(w.heap.size + 1), 2, none⟩ = some (.int .i64 0) := R8.cell 2
          have r3 : w8.cell? ⟨(w.heap.size + 1), 3, none⟩ = some (.slice none 0 0) := R8.cell 3
          have r4 : w8.cell? ⟨(w.heap.size + 1), 4, none⟩ = some (.int .i64 0) := R8.cell 4
          have r5 : w8.cell? ⟨(w.heap.size + 1), 5, none⟩ = some (.int .i64 0) := R8.cell 5
          have fr0 := R8.frozen 0
          have fr1 := R8.frozen 1
          have fr2 := R8.frozen 2
          have fr3 := R8.frozen 3
          have fr4 := R8.frozen 4
          have fr5 := R8.frozen 5
          have RS := blk6_set R8 (.int .i64 o) (.int .i64 l) (.int .i64 m) (.slice A' P.length c') (.int .i64 b) (.int .i64 t')
          have HG := hide (only6 w8 (w.heap.size + 1) (.int .i64 o) (.int .i64 l) (.int .i64 m) (.slice A' P.length c') (.int .i64 b) (.int .i64 t'))
          have WS := W8.kept HG.out (.inr (own_blk_ne W8 R8 (by decide)))
          have DS := D8.kept HG.out (.inr (own_blk_ne D8 R8 (by decide)))
          have KS := K8.far6 (g := w.heap.size + 1) (by omega) (.int .i64 o) (.int .i64 l) (.int .i64 m) (.slice A' P.length c') (.int .i64 b) (.int .i64 t')
          have BS := below_set6 (g := w.heap.size + 1) B8 (by omega) (.int .i64 o) (.int .i64 l) (.int .i64 m) (.slice A' P.length c') (.int .i64 b) (.int .i64 t')
          have HS : Below w.heap.size w ((((((w8.setCell ⟨w.heap.size + 1, 0, none⟩ (.int .i64 o)).setCell ⟨w.heap.size + 1, 1, none⟩ (.int .i64 l)).setCell ⟨w.heap.size + 1, 2, none⟩ (.int .i64 m)).setCell ⟨w.heap.size + 1, 3, none⟩ (.slice A' P.length c')).setCell ⟨w.heap.size + 1, 4, none⟩ (.int .i64 b)).setCell ⟨w.heap.size + 1, 5, none⟩ (.int .i64 t')).drew ∧ ((((((w8.setCell ⟨w.heap.size + 1, 0, none⟩ (.int .i64 o)).setCell ⟨w.heap.size + 1, 1, none⟩ (.int .i64 l)).setCell ⟨w.heap.size + 1, 2, none⟩ (.int .i64 m)).setCell ⟨w.heap.size + 1, 3, none⟩ (.slice A' P.length c')).setCell ⟨w.heap.size + 1, 4, none⟩ (.int .i64 b)).setCell ⟨w.heap.size + 1, 5, none⟩ (.int .i64 t')).drew.cell? ⟨w.heap.size, 0, none⟩ = some (.int .i64 o) ∧ ((((((w8.setCell ⟨w.heap.size + 1, 0, none⟩ (.int .i64 o)).setCell ⟨w.heap.size + 1, 1, none⟩ (.int .i64 l)).setCell ⟨w.heap.size + 1, 2, none⟩ (.int .i64 m)).setCell ⟨w.heap.size + 1, 3, none⟩ (.slice A' P.length c')).setCell ⟨w.heap.size + 1, 4, none⟩ (.int .i64 b)).setCell ⟨w.heap.size + 1, 5, none⟩ (.int .i64 t')).drew.cell? ⟨w.heap.size, 1, none⟩ = some (.int .i64 l) ∧ ((((((w8.setCell ⟨w.heap.size + 1, 0, none⟩ (.int .i64 o)).setCell ⟨w.heap.size + 1, 1, none⟩ (.int .i64 l)).setCell ⟨w.heap.size + 1, 2, none⟩ (.int .i64 m)).setCell ⟨w.heap.size + 1, 3, none⟩ (.slice A' P.length c')).setCell ⟨w.heap.size + 1, 4, none⟩ (.int .i64 b)).setCell ⟨w.heap.size + 1, 5, none⟩ (.int .i64 t')).drew.cell? ⟨w.heap.size, 2, none⟩ = some (.int .i64 m) ∧ ((((((w8.setCell ⟨w.heap.size + 1, 0, none⟩ (.int .i64 o)).setCell ⟨w.heap.size + 1, 1, none⟩ (.int .i64 l)).setCell ⟨w.heap.size + 1, 2, none⟩ (.int .i64 m)).setCell ⟨w.heap.size + 1, 3, none⟩ (.slice A' P.length c')).setCell ⟨w.heap.size + 1, 4, none⟩ (.int .i64 b)).setCell ⟨w.heap.size + 1, 5, none⟩ (.int .i64 t')).drew.cell? ⟨w.heap.size, 3, none⟩ = some (.slice A' P.length c') ∧ ((((((w8.setCell ⟨w.heap.size + 1, 0, none⟩ (.int .i64 o)).setCell ⟨w.heap.size + 1, 1, none⟩ (.int .i64 l)).setCell ⟨w.heap.size + 1, 2, none⟩ (.int .i64 m)).setCell ⟨w.heap.size + 1, 3, none⟩ (.slice A' P.length c')).setCell ⟨w.heap.size + 1, 4, none⟩ (.int .i64 b)).setCell ⟨w.heap.size + 1, 5, none⟩ (.int .i64 t')).drew.cell? ⟨w.heap.size, 4, none⟩ = some (.int .i64 b) ∧ ((((((w8.setCell ⟨w.heap.size + 1, 0, none⟩ (.int .i64 o)).setCell ⟨w.heap.size + 1, 1, none⟩ (.int .i64 l)).setCell ⟨w.heap.size + 1, 2, none⟩ (.int .i64 m)).setCell ⟨w.heap.size + 1, 3, none⟩ (.slice A' P.length c')).setCell ⟨w.heap.size + 1, 4, none⟩ (.int .i64 b)).setCell ⟨w.heap.size + 1, 5, none⟩ (.int .i64 t')).drew.cell? ⟨w.heap.size, 5, none⟩ = some (.int .i64 t') ∧ ((((((w8.setCell ⟨w.heap.size + 1, 0, none⟩ (.int .i64 o)).setCell ⟨w.heap.size + 1, 1, none⟩ (.int .i64 l)).setCell ⟨w.heap.size + 1, 2, none⟩ (.int .i64 m)).setCell ⟨w.heap.size + 1, 3, none⟩ (.slice A' P.length c')).setCell ⟨w.heap.size + 1, 4, none⟩ (.int .i64 b)).setCell ⟨w.heap.size + 1, 5, none⟩ (.int .i64 t')).drew.ownsRow w.heap.size 5 1 (.slice Ad ds.length cd) ds.length (bvals ds) := ⟨BS.drew, (Blk.drew KS).cell 0, (Blk.drew KS).cell 1, (Blk.drew KS).cell 2, (Blk.drew KS).cell 3, (Blk.drew KS).cell 4, (Blk.drew KS).cell 5, own_drew DS⟩
          go_simp
          clear r0 fr0 r1 fr1 r2 fr2 r3 fr3 r4 fr4 r5 fr5 HG
          refine hK.out _ _ (by (try dsimp only); first | exact HS) (fun hHeld => ?_)
          clear hK K
          try simp only [Act.put, List.setIfInBounds_toArray, List.set_cons_zero, List.set_cons_succ]
          refine wpAnyH_take (i := 10) (oi := { dst := some 5, op := Op.assign (Operand.tmp 33), type := 38, pos := "l2_words.go:193", after := #[{ on := 1, ground := Ground.data }, { on := 9, ground := Ground.chain }, { on := 0, ground := Ground.phase }, { on := 1, ground := Ground.phase }, { on := 2, ground := Ground.textOnly Departure.lateStores }, { on := 3, ground := Ground.textOnly Departure.lateStores }, { on := 4, ground := Ground.textOnly Departure.lateStores }, { on := 5, ground := Ground.textOnly Departure.lateStores }, { on := 6, ground := Ground.textOnly Departure.lateStoresUnsure }, { on := 7, ground := Ground.textOnly Departure.lateStores }, { on := 8, ground := Ground.textOnly Departure.lateStores }, { on := 9, ground := Ground.phase }], guard := none }) (v := ?_) rfl (by kernel_rfl) (by kernel_rfl) (by kernel_rfl) (fun _ _ _ h => h) (Or.inl ⟨by rfl, ?_⟩) (by assumption) ?_; rotate_left
          · intro W hW; (try dsimp only at hW); go_simp;  try (with_reducible rfl)
          try simp only [Act.put, List.setIfInBounds_toArray, List.set_cons_zero, List.set_cons_succ]
          refine wpAnyH_take (i := 11) (oi := { dst := some 6, op := Op.assign (Operand.tmp 35), type := 9, pos := "l2_words.go:193", after := #[{ on := 3, ground := Ground.data }, { on := 10, ground := Ground.chain }, { on := 0, ground := Ground.phase }, { on := 1, ground := Ground.phase }, { on := 2, ground := Ground.phase }, { on := 3, ground := Ground.phase }, { on := 4, ground := Ground.textOnly Departure.lateStores }, { on := 5, ground := Ground.textOnly Departure.lateStores }, { on := 6, ground := Ground.textOnly Departure.lateStoresUnsure }, { on := 7, ground := Ground.textOnly Departure.lateStores }, { on := 8, ground := Ground.textOnly Departure.lateStores }, { on := 9, ground := Ground.phase }, { on := 10, ground := Ground.phase }], guard := none }) (v := ?_) rfl (by kernel_rfl) (by kernel_rfl) (by kernel_rfl) (fun _ _ _ h => h) (Or.inl ⟨by rfl, ?_⟩) (by assumption) ?_; rotate_left
          · intro W hW; (try dsimp only at hW); go_simp;  try (with_reducible rfl)
          try simp only [Act.put, List.setIfInBounds_toArray, List.set_cons_zero, List.set_cons_succ]
          refine wpAnyH_take (i := 12) (oi := { dst := some 7, op := Op.assign (Operand.tmp 40), type := 4, pos := "l2_words.go:193", after := #[{ on := 8, ground := Ground.data }, { on := 11, ground := Ground.chain }, { on := 0, ground := Ground.phase }, { on := 1, ground := Ground.phase }, { on := 2, ground := Ground.phase }, { on := 3, ground := Ground.phase }, { on := 4, ground := Ground.phase }, { on := 5, ground := Ground.phase }, { on := 6, ground := Ground.phase }, { on := 7, ground := Ground.phase }, { on := 8, ground := Ground.phase }, { on := 9, ground := Ground.phase }, { on := 10, ground := Ground.phase }, { on := 11, ground := Ground.phase }], guard := none }) (v := ?_) rfl (by kernel_rfl) (by kernel_rfl) (by kernel_rfl) (fun _ _ _ h => h) (Or.inl ⟨by rfl, ?_⟩) (by assumption) ?_; rotate_left
          · intro W hW; (try dsimp only at hW); go_simp;  try (with_reducible rfl)
          try simp only [Act.put, List.setIfInBounds_toArray, List.set_cons_zero, List.set_cons_succ]
          refine wpAnyH_done (by kernel_rfl) ?_ _
          clear hHeld s8
          go_wp2_with fail
          have q0 := (Blk.drew RS).cell 0
          have q1 := (Blk.drew RS).cell 1
          have q2 := (Blk.drew RS).cell 2
          have q3 := (Blk.drew RS).cell 3
          have q4 := (Blk.drew RS).cell 4
          have q5 := (Blk.drew RS).cell 5
          exact bodyPost_ret (v := .tuple #[kv o l m A' P.length c' b t', .slice Aw2 (ws.length + 1) cw2, .string (str ds), .bool true]) (by simp [results, Try.results72, go_sem, q0, q1, q2, q3, q4, q5]; try rfl) rfl (swalk_ret hw1.symm rfl (OwnI.of_own hw1 (own_drew (own_ints WS))) (by omega) (by omega) HN.out BS.drew)
      · by_cases hx2 : x = Sx.two l
        · have hgo : Sx.goB l m P.length t' x = true := by simp [Sx.goB, hx2]
          have HN : ds.length ≤ 2000 → _ := fun hd => Sx.acc_go (HR.out hd) hlt HX.out hx1 hgo (by rw [Sx.wd_clear hx2]; simpa using hd)
          rw [Sx.wd_clear hx2, List.append_nil] at HN
          have HM2 := HM.out
          have ee : (x == Sx.two l + 1) = false := by rw [beq_eq_false_iff_ne]; exact hx1
          have ec : (x != Sx.two l) = false := by rw [hx2]; simp
          obtain ⟨P2, hP2⟩ : ∃ P2, P2 = Sx.stepP l m P b t' x := ⟨_, rfl⟩
          obtain ⟨t2, hT2⟩ : ∃ t2, t2 = Sx.advT l x := ⟨_, rfl⟩
          have HK2 := Sx.step_ok HK.out hgo
          have CS := fun w2 (hp : PR w2 w2.heap.size A' P) => spec_l2Step o l m A' c' b t' x P w2 hp hcap HK.out hgo
          rw [← hP2, ← hT2] at HN HK2 CS
          rw [← hV] at HN
          have HN := hide HN
          have HM2 := hide HM2
          have HK2 := hide HK2
          have CS := hide CS
          clear hx1 hx2 HR HM HK hgo hV hP2 hT2
          go_wp2_with fail
          refine ((unhide CW) _).mono ?_; rintro e w6 ⟨rfl, hb6⟩
          have W6 := own_below W5 hb6
          have D6 := own_below D5 hb6
          have P6 := PK.below P5 hb6
          have K6 := K5.below hb6 K5.lt
          have R6 := R5.below hb6 R5.lt
          have B6 := below_next (Nat.le_refl _) B5 hb6
          clear W5 D5 P5 K5 R5 B5 hb6 CW a0 a1 a2 a3 a4 a5
          go_wp2_with (at_builtin; refine wpList_append_any _ rfl _ _ _ rfl w.heap.size 3 i0 (.int .i64 0) 1 8 Try.underlying38 hi0 hz0 hz1 hz3 (by rfl) (by decide) (.slice Aw ws.length cw) ws.length (ivals ws) rfl (W6.alloc _) _ _ 1 1 [.int .i64 V] rfl (reads_one _ _ _) (by simp [Value.oneCell']) (by simp only [maxLen]; omega) (by omega) (by have := B6.size; simp; omega) ?_; intro v' w7 hown9 hg9 _; have W8 := W6.alloc (.cells #[.int .i64 V] 3); have D7 := own_other (D6.alloc (.cells #[.int .i64 V] 3)) W8 hg9 (by decide); have P7 := PK.other (P6.alloc (.cells #[.int .i64 V] 3)) W8 hg9 (by decide); have K7 := blk_other (K6.alloc (.cells #[.int .i64 V] 3)) W8 hg9 (by decide); have R7 := blk_other (R6.alloc (.cells #[.int .i64 V] 3)) W8 hg9 (by decide); have B7 := (B6.alloc B6.size (.cells #[.int .i64 V] 3)).grown hg9 (by have := B6.size; simp; omega) (fun g hgg => (W8.lt g hgg).1); have W7 := own_nodup hown9; obtain ⟨Aw2, cw2, rfl⟩ := own_shapeN W7; clear W8 hown9 hg9; clear W6 D6 P6 K6 R6 B6)
          have x7 := (B7.cell (p := ⟨pg, po + k, none⟩) hpg).trans hpx
          have s7 : Below w7.heap.size w7 w7.drew ∧ w7.drew.cell? ⟨w.heap.size, 0, none⟩ = some (.int .i64 o) ∧ w7.drew.cell? ⟨w.heap.size, 1, none⟩ = some (.int .i64 l) ∧ w7.drew.cell? ⟨w.heap.size, 2, none⟩ = some (.int .i64 m) ∧ w7.drew.cell? ⟨w.heap.size, 3, none⟩ = some (.slice A' P.length c') ∧ w7.drew.cell? ⟨w.heap.size, 4, none⟩ = some (.int .i64 b) ∧ w7.drew.cell? ⟨w.heap.size, 5, none⟩ = some (.int .i64 t') ∧ w7.drew.cell? ⟨pg, po + k, none⟩ = some (.int .i64 x) := ⟨(Below.refl _ _).drew, K7.cell 0, K7.cell 1, K7.cell 2, K7.cell 3, K7.cell 4, K7.cell 5, x7⟩
          refine wp_region_held_drew (S := (fun W => Below w7.heap.size w7 W ∧ W.cell? ⟨w.heap.size, 0, none⟩ = some (.int .i64 o) ∧ W.cell? ⟨w.heap.size, 1, none⟩ = some (.int .i64 l) ∧ W.cell? ⟨w.heap.size, 2, none⟩ = some (.int .i64 m) ∧ W.cell? ⟨w.heap.size, 3, none⟩ = some (.slice A' P.length c') ∧ W.cell? ⟨w.heap.size, 4, none⟩ = some (.int .i64 b) ∧ W.cell? ⟨w.heap.size, 5, none⟩ = some (.int .i64 t') ∧ W.cell? ⟨pg, po + k, none⟩ = some (.int .i64 x))) (by kernel_rfl) (by first | assumption | exact s7 | exact keep7 (by assumption) (by assumption)) (fun hHeld => ?_)
          refine wpAnyH_take (i := 0) (oi := { dst := some 24, op := Op.move (Operand.tmp 1), type := 38, pos := "l2_words.go:192", after := #[], guard := none }) (v := ?_) rfl (by kernel_rfl) (by kernel_rfl) (by kernel_rfl) (fun _ _ _ h => h) (Or.inl ⟨by rfl, ?_⟩) (by assumption) ?_; rotate_left
          · intro W hW; (try dsimp only at hW); go_simp;  try (with_reducible rfl)
          try simp only [Act.put, List.setIfInBounds_toArray, List.set_cons_zero, List.set_cons_succ]
          refine wpAnyH_take (i := 1) (oi := { dst := some 25, op := Op.move (Operand.tmp 10), type := 3, pos := "l2_words.go:192", after := #[], guard := none }) (v := ?_) rfl (by kernel_rfl) (by kernel_rfl) (by kernel_rfl) (fun _ _ _ h => h) (Or.inl ⟨by rfl, ?_⟩) (by assumption) ?_; rotate_left
          · intro W hW; (try dsimp only at hW); go_simp;  try (with_reducible rfl)
          try simp only [Act.put, List.setIfInBounds_toArray, List.set_cons_zero, List.set_cons_succ]
          refine wpAnyH_take (i := 2) (oi := { dst := some 26, op := Op.indexAddr 38 (Operand.tmp 24) (Operand.tmp 25), type := 0, pos := "l2_words.go:192", after := #[{ on := 0, ground := Ground.data }, { on := 1, ground := Ground.data }], guard := none }) (v := ?_) rfl (by kernel_rfl) (by kernel_rfl) (by kernel_rfl) (fun _ _ _ h => h) (Or.inl ⟨by rfl, ?_⟩) (by assumption) ?_; rotate_left
          · intro W hW; (try dsimp only at hW); go_simp;  try (with_reducible rfl)
          try simp only [Act.put, List.setIfInBounds_toArray, List.set_cons_zero, List.set_cons_succ]
          refine wpAnyH_take (i := 3) (oi := { dst := some 27, op := Op.load 3 (Operand.tmp 26), type := 3, pos := "l2_words.go:192", after := #[{ on := 2, ground := Ground.data }], guard := none }) (v := ?_) rfl (by kernel_rfl) (by kernel_rfl) (by kernel_rfl) (fun _ _ _ h => h) (Or.inl ⟨by rfl, ?_⟩) (by assumption) ?_; rotate_left
          · intro W hW; (try dsimp only at hW); go_simp;  try (with_reducible rfl)
          try simp only [Act.put, List.setIfInBounds_toArray, List.set_cons_zero, List.set_cons_succ]
          refine wpAnyH_take (i := 4) (oi := { dst := some 28, op := Op.fieldAddr 31 (Operand.tmp 2) 0, type := 0, pos := "l2_words.go:192", after := #[], guard := none }) (v := ?_) rfl (by kernel_rfl) (by kernel_rfl) (by kernel_rfl) (fun _ _ _ h => h) (Or.inl ⟨by rfl, ?_⟩) (by assumption) ?_; rotate_left
          · intro W hW; (try dsimp only at hW); go_simp;  try (with_reducible rfl)
          try simp only [Act.put, List.setIfInBounds_toArray, List.set_cons_zero, List.set_cons_succ]
          refine wpAnyH_take (i := 5) (oi := { dst := some 29, op := Op.load 28 (Operand.tmp 28), type := 28, pos := "l2_words.go:192", after := #[{ on := 4, ground := Ground.data }], guard := none }) (v := ?_) rfl (by kernel_rfl) (by kernel_rfl) (by kernel_rfl) (fun _ _ _ h => h) (Or.inl ⟨by rfl, ?_⟩) (by assumption) ?_; rotate_left
          · intro W hW; (try dsimp only at hW); go_simp;  try (with_reducible rfl)
          try simp only [Act.put, List.setIfInBounds_toArray, List.set_cons_zero, List.set_cons_succ]
          refine wpAnyH_ready (rs := [6]) (by kernel_rfl) (by simp) (AllReadyH.cons (i := 6) (o := { dst := some 30, op := Op.call { callee := Callee.value (Operand.func 87), args := #[Operand.tmp 29], argTypes := #[28] }, type := 3, pos := "l2_words.go:192", after := #[{ on := 5, ground := Ground.data }], guard := none }) rfl (fun K hK => ?_) AllReadyH.nil)
          go_simp
          refine ((unhide CE) _).mono ?_; rintro e w8 ⟨rfl, hb⟩
          try go_wp2_with fail
          refine hK.out _ _ (by (try dsimp only); first | assumption | exact s7 | exact keep7 (by assumption) (by assumption)) (fun hHeld => ?_)
          clear hK K
          try simp only [Act.put, List.setIfInBounds_toArray, List.set_cons_zero, List.set_cons_succ]
          refine wpAnyH_take (i := 7) (oi := { dst := some 31, op := Op.binOp BinOp.eql 3 (Operand.tmp 27) (Operand.tmp 30) 3, type := 4, pos := "l2_words.go:192", after := #[{ on := 3, ground := Ground.data }, { on := 6, ground := Ground.data }], guard := none }) (v := ?_) rfl (by kernel_rfl) (by kernel_rfl) (by kernel_rfl) (fun _ _ _ h => h) (Or.inl ⟨by rfl, ?_⟩) (by assumption) ?_; rotate_left
          · intro W hW; (try dsimp only at hW); go_simp;  try (with_reducible rfl)
          try simp only [Act.put, List.setIfInBounds_toArray, List.set_cons_zero, List.set_cons_succ]
          refine wpAnyH_done (by kernel_rfl) ?_ _
          have hb := hHeld.1
          clear hHeld s7 x7
          have W8 := own_below W7 hb
          have D8 := own_below D7 hb
          have P8 := PK.below P7 hb
          have K8 := K7.below hb K7.lt
          have R8 := R7.below hb R7.lt
          have B8 := below_next (Nat.le_refl _) B7 hb
          clear W7 D7 P7 K7 R7 B7 hb
          have x8 := (B8.cell (p := ⟨pg, po + k, none⟩) hpg).trans hpx
          have s8 : Below w8.heap.size w8 w8.drew ∧ w8.drew.cell? ⟨w.heap.size, 0, none⟩ = some (.int .i64 o) ∧ w8.drew.cell? ⟨w.heap.size, 1, none⟩ = some (.int .i64 l) ∧ w8.drew.cell? ⟨w.heap.size, 2, none⟩ = some (.int .i64 m) ∧ w8.drew.cell? ⟨w.heap.size, 3, none⟩ = some (.slice A' P.length c') ∧ w8.drew.cell? ⟨w.heap.size, 4, none⟩ = some (.int .i64 b) ∧ w8.drew.cell? ⟨w.heap.size, 5, none⟩ = some (.int .i64 t') ∧ w8.drew.cell? ⟨pg, po + k, none⟩ = some (.int .i64 x) := ⟨(Below.refl _ _).drew, K8.cell 0, K8.cell 1, K8.cell 2, K8.cell 3, K8.cell 4, K8.cell 5, x8⟩
          go_wp2_with fail
          refine wp_region_held_drew (S := (fun W => Below w8.heap.size w8 W ∧ W.cell? ⟨w.heap.size, 0, none⟩ = some (.int .i64 o) ∧ W.cell? ⟨w.heap.size, 1, none⟩ = some (.int .i64 l) ∧ W.cell? ⟨w.heap.size, 2, none⟩ = some (.int .i64 m) ∧ W.cell? ⟨w.heap.size, 3, none⟩ = some (.slice A' P.length c') ∧ W.cell? ⟨w.heap.size, 4, none⟩ = some (.int .i64 b) ∧ W.cell? ⟨w.heap.size, 5, none⟩ = some (.int .i64 t') ∧ W.cell? ⟨pg, po + k, none⟩ = some (.int .i64 x))) (by kernel_rfl) (by first | assumption | exact s8 | exact keep7 (by assumption) (by assumption)) (fun hHeld => ?_)
          refine wpAnyH_take (i := 0) (oi := { dst := some 41, op := Op.move (Operand.tmp 1), type := 38, pos := "l2_words.go:195", after := #[], guard := none }) (v := ?_) rfl (by kernel_rfl) (by kernel_rfl) (by kernel_rfl) (fun _ _ _ h => h) (Or.inl ⟨by rfl, ?_⟩) (by assumption) ?_; rotate_left
          · intro W hW; (try dsimp only at hW); go_simp;  try (with_reducible rfl)
          try simp only [Act.put, List.setIfInBounds_toArray, List.set_cons_zero, List.set_cons_succ]
          refine wpAnyH_take (i := 1) (oi := { dst := some 42, op := Op.move (Operand.tmp 10), type := 3, pos := "l2_words.go:195", after := #[], guard := none }) (v := ?_) rfl (by kernel_rfl) (by kernel_rfl) (by kernel_rfl) (fun _ _ _ h => h) (Or.inl ⟨by rfl, ?_⟩) (by assumption) ?_; rotate_left
          · intro W hW; (try dsimp only at hW); go_simp;  try (with_reducible rfl)
          try simp only [Act.put, List.setIfInBounds_toArray, List.set_cons_zero, List.set_cons_succ]
          refine wpAnyH_take (i := 2) (oi := { dst := some 43, op := Op.indexAddr 38 (Operand.tmp 41) (Operand.tmp 42), type := 0, pos := "l2_words.go:195", after := #[{ on := 0, ground := Ground.data }, { on := 1, ground := Ground.data }], guard := none }) (v := ?_) rfl (by kernel_rfl) (by kernel_rfl) (by kernel_rfl) (fun _ _ _ h => h) (Or.inl ⟨by rfl, ?_⟩) (by assumption) ?_; rotate_left
          · intro W hW; (try dsimp only at hW); go_simp;  try (with_reducible rfl)
          try simp only [Act.put, List.setIfInBounds_toArray, List.set_cons_zero, List.set_cons_succ]
          refine wpAnyH_take (i := 3) (oi := { dst := some 44, op := Op.load 3 (Operand.tmp 43), type := 3, pos := "l2_words.go:195", after := #[{ on := 2, ground := Ground.data }], guard := none }) (v := ?_) rfl (by kernel_rfl) (by kernel_rfl) (by kernel_rfl) (fun _ _ _ h => h) (Or.inl ⟨by rfl, ?_⟩) (by assumption) ?_; rotate_left
          · intro W hW; (try dsimp only at hW); go_simp;  try (with_reducible rfl)
          try simp only [Act.put, List.setIfInBounds_toArray, List.set_cons_zero, List.set_cons_succ]
          refine wpAnyH_take (i := 4) (oi := { dst := some 45, op := Op.fieldAddr 31 (Operand.tmp 2) 0, type := 0, pos := "l2_words.go:195", after := #[], guard := none }) (v := ?_) rfl (by kernel_rfl) (by kernel_rfl) (by kernel_rfl) (fun _ _ _ h => h) (Or.inl ⟨by rfl, ?_⟩) (by assumption) ?_; rotate_left
          · intro W hW; (try dsimp only at hW); go_simp;  try (with_reducible rfl)
          try simp only [Act.put, List.setIfInBounds_toArray, List.set_cons_zero, List.set_cons_succ]
          refine wpAnyH_take (i := 5) (oi := { dst := some 46, op := Op.load 28 (Operand.tmp 45), type := 28, pos := "l2_words.go:195", after := #[{ on := 4, ground := Ground.data }], guard := none }) (v := ?_) rfl (by kernel_rfl) (by kernel_rfl) (by kernel_rfl) (fun _ _ _ h => h) (Or.inl ⟨by rfl, ?_⟩) (by assumption) ?_; rotate_left
          · intro W hW; (try dsimp only at hW); go_simp;  try (with_reducible rfl)
          try simp only [Act.put, List.setIfInBounds_toArray, List.set_cons_zero, List.set_cons_succ]
          refine wpAnyH_ready (rs := [6]) (by kernel_rfl) (by simp) (AllReadyH.cons (i := 6) (o := { dst := some 47, op := Op.call { callee := Callee.value (Operand.func 57), args := #[Operand.tmp 46], argTypes := #[28] }, type := 3, pos := "l2_words.go:195", after := #[{ on := 5, ground := Ground.data }], guard := none }) rfl (fun K hK => ?_) AllReadyH.nil)
          go_simp
          refine ((unhide CC) _).mono ?_; rintro e w9 ⟨rfl, hb⟩
          try go_wp2_with fail
          refine hK.out _ _ (by (try dsimp only); first | assumption | exact s8 | exact keep7 (by assumption) (by assumption)) (fun hHeld => ?_)
          clear hK K
          try simp only [Act.put, List.setIfInBounds_toArray, List.set_cons_zero, List.set_cons_succ]
          refine wpAnyH_take (i := 7) (oi := { dst := some 48, op := Op.binOp BinOp.neq 3 (Operand.tmp 44) (Operand.tmp 47) 3, type := 4, pos := "l2_words.go:195", after := #[{ on := 3, ground := Ground.data }, { on := 6, ground := Ground.data }], guard := none }) (v := ?_) rfl (by kernel_rfl) (by kernel_rfl) (by kernel_rfl) (fun _ _ _ h => h) (Or.inl ⟨by rfl, ?_⟩) (by assumption) ?_; rotate_left
          · intro W hW; (try dsimp only at hW); go_simp;  try (with_reducible rfl)
          try simp only [Act.put, List.setIfInBounds_toArray, List.set_cons_zero, List.set_cons_succ]
          refine wpAnyH_done (by kernel_rfl) ?_ _
          have hb := hHeld.1
          clear hHeld s8 x8
          have W9 := own_below W8 hb
          have D9 := own_below D8 hb
          have P9 := PK.below P8 hb
          have K9 := K8.below hb K8.lt
          have R9 := R8.below hb R8.lt
          have B9 := below_next (Nat.le_refl _) B8 hb
          clear W8 D8 P8 K8 R8 B8 hb
          have x13 := (B9.cell (p := ⟨pg, po + k, none⟩) hpg).trans hpx
          have s13 : Below w9.heap.size w9 w9.drew ∧ w9.drew.cell? ⟨w.heap.size, 0, none⟩ = some (.int .i64 o) ∧ w9.drew.cell? ⟨w.heap.size, 1, none⟩ = some (.int .i64 l) ∧ w9.drew.cell? ⟨w.heap.size, 2, none⟩ = some (.int .i64 m) ∧ w9.drew.cell? ⟨w.heap.size, 3, none⟩ = some (.slice A' P.length c') ∧ w9.drew.cell? ⟨w.heap.size, 4, none⟩ = some (.int .i64 b) ∧ w9.drew.cell? ⟨w.heap.size, 5, none⟩ = some (.int .i64 t') ∧ w9.drew.cell? ⟨pg, po + k, none⟩ = some (.int .i64 x) := ⟨(Below.refl _ _).drew, K9.cell 0, K9.cell 1, K9.cell 2, K9.cell 3, K9.cell 4, K9.cell 5, x13⟩
          go_wp2_with fail
          refine wp_region_final_drew (S := (fun W => Below w9.heap.size w9 W ∧ W.cell? ⟨w.heap.size, 0, none⟩ = some (.int .i64 o) ∧ W.cell? ⟨w.heap.size, 1, none⟩ = some (.int .i64 l) ∧ W.cell? ⟨w.heap.size, 2, none⟩ = some (.int .i64 m) ∧ W.cell? ⟨w.heap.size, 3, none⟩ = some (.slice A' P.length c') ∧ W.cell? ⟨w.heap.size, 4, none⟩ = some (.int .i64 b) ∧ W.cell? ⟨w.heap.size, 5, none⟩ = some (.int .i64 t') ∧ W.cell? ⟨pg, po + k, none⟩ = some (.int .i64 x))) 6 (by kernel_rfl) (by first | assumption | exact s13 | exact keep7 (by assumption) (by assumption)) (fun hHeld => ?_)
          refine wpAnyF_take (i := 0) (oi := { dst := some 71, op := Op.load 31 (Operand.tmp 2), type := 31, pos := "l2_words.go:201", after := #[], guard := none }) (v := ?_) rfl (by kernel_rfl) (by kernel_rfl) (by kernel_rfl) (by kernel_rfl) (fun _ _ _ h => h) (Or.inl ⟨by rfl, ?_⟩) (by assumption) ?_; rotate_left
          · intro W hW; (try dsimp only at hW); go_simp;  try (with_reducible rfl)
          try simp only [Act.put, List.setIfInBounds_toArray, List.set_cons_zero, List.set_cons_succ]
          refine wpAnyF_take (i := 1) (oi := { dst := some 72, op := Op.move (Operand.tmp 1), type := 38, pos := "l2_words.go:201", after := #[], guard := none }) (v := ?_) rfl (by kernel_rfl) (by kernel_rfl) (by kernel_rfl) (by kernel_rfl) (fun _ _ _ h => h) (Or.inl ⟨by rfl, ?_⟩) (by assumption) ?_; rotate_left
          · intro W hW; (try dsimp only at hW); go_simp;  try (with_reducible rfl)
          try simp only [Act.put, List.setIfInBounds_toArray, List.set_cons_zero, List.set_cons_succ]
          refine wpAnyF_take (i := 2) (oi := { dst := some 73, op := Op.move (Operand.tmp 10), type := 3, pos := "l2_words.go:201", after := #[], guard := none }) (v := ?_) rfl (by kernel_rfl) (by kernel_rfl) (by kernel_rfl) (by kernel_rfl) (fun _ _ _ h => h) (Or.inl ⟨by rfl, ?_⟩) (by assumption) ?_; rotate_left
          · intro W hW; (try dsimp only at hW); go_simp;  try (with_reducible rfl)
          try simp only [Act.put, List.setIfInBounds_toArray, List.set_cons_zero, List.set_cons_succ]
          refine wpAnyF_take (i := 3) (oi := { dst := some 74, op := Op.indexAddr 38 (Operand.tmp 72) (Operand.tmp 73), type := 0, pos := "l2_words.go:201", after := #[{ on := 1, ground := Ground.data }, { on := 2, ground := Ground.data }], guard := none }) (v := ?_) rfl (by kernel_rfl) (by kernel_rfl) (by kernel_rfl) (by kernel_rfl) (fun _ _ _ h => h) (Or.inl ⟨by rfl, ?_⟩) (by assumption) ?_; rotate_left
          · intro W hW; (try dsimp only at hW); go_simp;  try (with_reducible rfl)
          try simp only [Act.put, List.setIfInBounds_toArray, List.set_cons_zero, List.set_cons_succ]
          refine wpAnyF_take (i := 4) (oi := { dst := some 75, op := Op.load 3 (Operand.tmp 74), type := 3, pos := "l2_words.go:201", after := #[{ on := 3, ground := Ground.data }], guard := none }) (v := ?_) rfl (by kernel_rfl) (by kernel_rfl) (by kernel_rfl) (by kernel_rfl) (fun _ _ _ h => h) (Or.inl ⟨by rfl, ?_⟩) (by assumption) ?_; rotate_left
          · intro W hW; (try dsimp only at hW); go_simp;  try (with_reducible rfl)
          try simp only [Act.put, List.setIfInBounds_toArray, List.set_cons_zero, List.set_cons_succ]
          refine wpAnyF_ready (rs := [5]) (by kernel_rfl) (by simp) (AllReadyF.cons (i := 5) (o := { dst := some 76, op := Op.call { callee := Callee.value (Operand.func 59), args := #[Operand.tmp 71, Operand.tmp 75], argTypes := #[31, 3] }, type := 31, pos := "l2_words.go:201", after := #[{ on := 0, ground := Ground.data }, { on := 4, ground := Ground.data }], guard := none }) rfl (fun K hK => ?_) AllReadyF.nil)
          go_simp
          refine ((unhide CS) _ (PK.pr (PK.drew P9) B9.drew)).mono ?_; rintro e wb ⟨A4, c4, rfl, O4, hc4, hb⟩
          try go_wp2_with fail
          refine hK.out _ _ (by (try dsimp only); first | assumption | exact s13 | exact keep7 (by assumption) (by assumption)) (fun hHeld => ?_)
          clear hK K
          try simp only [Act.put, List.setIfInBounds_toArray, List.set_cons_zero, List.set_cons_succ]
          refine wpAnyF_ready (rs := [6]) (by kernel_rfl) (by simp) (AllReadyF.last (o := { dst := none, op := Op.store 31 (Operand.tmp 2) (Operand.tmp 76), type := 0, pos := "l2_words.go:201", after := #[{ on := 5, ground := Ground.data }, { on := 5, ground := Ground.chain }, { on := 0, ground := Ground.phase }, { on := 1, ground := Ground.phase }, { on := 2, ground := Ground.phase }, { on := 3, ground := Ground.phase }, { on := 4, ground := Ground.phase }, { on := 5, ground := Ground.phase }], guard := none }) rfl (fun K hK => ?_))
          have W14 := own_below (own_drew W9) hb
          have D14 := own_below (own_drew D9) hb
          have O4 := O4.mono (B9.drew.size)
          have K14 := Blk.below (Blk.drew K9) hb K9.lt
          have R14 := Blk.below (Blk.drew R9) hb R9.lt
          have B14 := below_next (Nat.le_refl _) B9.drew hb
          have a0 : wb.cell? ⟨w.heap.size, 0, none⟩ = some (.int .i64 o) := K14.cell 0
          have a1 : wb.cell? ⟨w.heap.size, 1, none⟩ = some (.int .i64 l) := K14.cell 1
          have a2 : wb.cell? ⟨w.heap.size, 2, none⟩ = some (.int .i64 m) := K14.cell 2
          have a3 : wb.cell? ⟨w.heap.size, 3, none⟩ = some (.slice A' P.length c') := K14.cell 3
          have a4 : wb.cell? ⟨w.heap.size, 4, none⟩ = some (.int .i64 b) := K14.cell 4
          have a5 : wb.cell? ⟨w.heap.size, 5, none⟩ = some (.int .i64 t') := K14.cell 5
          have fa0 := K14.frozen 0
          have fa1 := K14.frozen 1
          have fa2 := K14.frozen 2
          have fa3 := K14.frozen 3
          have fa4 := K14.frozen 4
          have fa5 := K14.frozen 5
          have KS := blk6_set K14 (.int .i64 o) (.int .i64 l) (.int .i64 m) (.slice A4 P2.length c4) (.int .i64 b) (.int .i64 t2)
          have HG := hide (only6 wb w.heap.size (.int .i64 o) (.int .i64 l) (.int .i64 m) (.slice A4 P2.length c4) (.int .i64 b) (.int .i64 t2))
          have WS := W14.kept HG.out (.inr (own_blk_ne W14 K14 (by decide)))
          have DS := D14.kept HG.out (.inr (own_blk_ne D14 K14 (by decide)))
          have PS : PK w ((((((wb.setCell ⟨w.heap.size, 0, none⟩ (.int .i64 o)).setCell ⟨w.heap.size, 1, none⟩ (.int .i64 l)).setCell ⟨w.heap.size, 2, none⟩ (.int .i64 m)).setCell ⟨w.heap.size, 3, none⟩ (.slice A4 P2.length c4)).setCell ⟨w.heap.size, 4, none⟩ (.int .i64 b)).setCell ⟨w.heap.size, 5, none⟩ (.int .i64 t2)) A4 P2 := .inr (O4.only HG.out K14 (by decide))
          have RS := R14.far6 (g := w.heap.size) (by omega) (.int .i64 o) (.int .i64 l) (.int .i64 m) (.slice A4 P2.length c4) (.int .i64 b) (.int .i64 t2)
          have BS := below_set6 (g := w.heap.size) B14 (Nat.le_refl _) (.int .i64 o) (.int .i64 l) (.int .i64 m) (.slice A4 P2.length c4) (.int .i64 b) (.int .i64 t2)
          clear W14 D14 R14 B14 O4 HG hHeld hb s13 x13 W9 D9 P9 K9 R9 B9
          go_simp
          clear a0 a1 a2 a3 a4 a5 fa0 fa1 fa2 fa3 fa4 fa5 K14
          refine hK.out _ _ ?_
          clear hK K
          try simp only [Act.put, List.setIfInBounds_toArray, List.set_cons_zero, List.set_cons_succ]
          refine wpAnyF_done (by kernel_rfl) ?_ _
          go_wp2_with fail
          go_roundw
          case rel => exact ⟨k + 1, ws ++ [V], ds, P2, t2, Aw2, Ad, A4, cw2, cd, c4, by omega, by go_num, by rw [hw1], rfl, hide (by rw [hw1, hwl.out]), hdl, by rw [hw1]; exact own_ints WS, DS, PS, hc4, KS, RS, BS, HK2, HN, HM2⟩
          case measure => simp [intOf]; omega
        · rcases hc : Sx.canB l m P.length t' x with _ | _
          · skip
            have HN : Sx.wk l m b xs ps t 0 = Sx.pick false (ws ++ [V]) [] := by
              rw [Sx.pick_no]
              by_cases hd : ds.length ≤ 2000
              · exact Sx.acc_bad (HR.out hd) hlt HX.out hx1 (by simp [Sx.goB, hc, hx2])
              · exact HM.out (by omega)
            have HN := hide HN
            have ee : (x == Sx.two l + 1) = false := by rw [beq_eq_false_iff_ne]; exact hx1
            have ec : (x != Sx.two l) = true := by rw [bne_iff_ne]; exact hx2
            have CF := hide (fun wx => by have := spec_l2Follows o l m A' c' b t' x P wx n0 n1 (by omega) n3 n4; rwa [hc] at this)
            clear hx1 hx2 HR HM HK hV hc
            go_wp2_with fail
            refine ((unhide CW) _).mono ?_; rintro e w6 ⟨rfl, hb6⟩
            have W6 := own_below W5 hb6
            have D6 := own_below D5 hb6
            have P6 := PK.below P5 hb6
            have K6 := K5.below hb6 K5.lt
            have R6 := R5.below hb6 R5.lt
            have B6 := below_next (Nat.le_refl _) B5 hb6
            clear W5 D5 P5 K5 R5 B5 hb6 CW a0 a1 a2 a3 a4 a5
            go_wp2_with (at_builtin; refine wpList_append_any _ rfl _ _ _ rfl w.heap.size 3 i0 (.int .i64 0) 1 8 Try.underlying38 hi0 hz0 hz1 hz3 (by rfl) (by decide) (.slice Aw ws.length cw) ws.length (ivals ws) rfl (W6.alloc _) _ _ 1 1 [.int .i64 V] rfl (reads_one _ _ _) (by simp [Value.oneCell']) (by simp only [maxLen]; omega) (by omega) (by have := B6.size; simp; omega) ?_; intro v' w7 hown9 hg9 _; have W8 := W6.alloc (.cells #[.int .i64 V] 3); have D7 := own_other (D6.alloc (.cells #[.int .i64 V] 3)) W8 hg9 (by decide); have P7 := PK.other (P6.alloc (.cells #[.int .i64 V] 3)) W8 hg9 (by decide); have K7 := blk_other (K6.alloc (.cells #[.int .i64 V] 3)) W8 hg9 (by decide); have R7 := blk_other (R6.alloc (.cells #[.int .i64 V] 3)) W8 hg9 (by decide); have B7 := (B6.alloc B6.size (.cells #[.int .i64 V] 3)).grown hg9 (by have := B6.size; simp; omega) (fun g hgg => (W8.lt g hgg).1); have W7 := own_nodup hown9; obtain ⟨Aw2, cw2, rfl⟩ := own_shapeN W7; clear W8 hown9 hg9; clear W6 D6 P6 K6 R6 B6)
            have x7 := (B7.cell (p := ⟨pg, po + k, none⟩) hpg).trans hpx
            have s7 : Below w7.heap.size w7 w7.drew ∧ w7.drew.cell? ⟨w.heap.size, 0, none⟩ = some (.int .i64 o) ∧ w7.drew.cell? ⟨w.heap.size, 1, none⟩ = some (.int .i64 l) ∧ w7.drew.cell? ⟨w.heap.size, 2, none⟩ = some (.int .i64 m) ∧ w7.drew.cell? ⟨w.heap.size, 3, none⟩ = some (.slice A' P.length c') ∧ w7.drew.cell? ⟨w.heap.size, 4, none⟩ = some (.int .i64 b) ∧ w7.drew.cell? ⟨w.heap.size, 5, none⟩ = some (.int .i64 t') ∧ w7.drew.cell? ⟨pg, po + k, none⟩ = some (.int .i64 x) := ⟨(Below.refl _ _).drew, K7.cell 0, K7.cell 1, K7.cell 2, K7.cell 3, K7.cell 4, K7.cell 5, x7⟩
            refine wp_region_held_drew (S := (fun W => Below w7.heap.size w7 W ∧ W.cell? ⟨w.heap.size, 0, none⟩ = some (.int .i64 o) ∧ W.cell? ⟨w.heap.size, 1, none⟩ = some (.int .i64 l) ∧ W.cell? ⟨w.heap.size, 2, none⟩ = some (.int .i64 m) ∧ W.cell? ⟨w.heap.size, 3, none⟩ = some (.slice A' P.length c') ∧ W.cell? ⟨w.heap.size, 4, none⟩ = some (.int .i64 b) ∧ W.cell? ⟨w.heap.size, 5, none⟩ = some (.int .i64 t') ∧ W.cell? ⟨pg, po + k, none⟩ = some (.int .i64 x))) (by kernel_rfl) (by first | assumption | exact s7 | exact keep7 (by assumption) (by assumption)) (fun hHeld => ?_)
            refine wpAnyH_take (i := 0) (oi := { dst := some 24, op := Op.move (Operand.tmp 1), type := 38, pos := "l2_words.go:192", after := #[], guard := none }) (v := ?_) rfl (by kernel_rfl) (by kernel_rfl) (by kernel_rfl) (fun _ _ _ h => h) (Or.inl ⟨by rfl, ?_⟩) (by assumption) ?_; rotate_left
            · intro W hW; (try dsimp only at hW); go_simp;  try (with_reducible rfl)
            try simp only [Act.put, List.setIfInBounds_toArray, List.set_cons_zero, List.set_cons_succ]
            refine wpAnyH_take (i := 1) (oi := { dst := some 25, op := Op.move (Operand.tmp 10), type := 3, pos := "l2_words.go:192", after := #[], guard := none }) (v := ?_) rfl (by kernel_rfl) (by kernel_rfl) (by kernel_rfl) (fun _ _ _ h => h) (Or.inl ⟨by rfl, ?_⟩) (by assumption) ?_; rotate_left
            · intro W hW; (try dsimp only at hW); go_simp;  try (with_reducible rfl)
            try simp only [Act.put, List.setIfInBounds_toArray, List.set_cons_zero, List.set_cons_succ]
            refine wpAnyH_take (i := 2) (oi := { dst := some 26, op := Op.indexAddr 38 (Operand.tmp 24) (Operand.tmp 25), type := 0, pos := "l2_words.go:192", after := #[{ on := 0, ground := Ground.data }, { on := 1, ground := Ground.data }], guard := none }) (v := ?_) rfl (by kernel_rfl) (by kernel_rfl) (by kernel_rfl) (fun _ _ _ h => h) (Or.inl ⟨by rfl, ?_⟩) (by assumption) ?_; rotate_left
            · intro W hW; (try dsimp only at hW); go_simp;  try (with_reducible rfl)
            try simp only [Act.put, List.setIfInBounds_toArray, List.set_cons_zero, List.set_cons_succ]
            refine wpAnyH_take (i := 3) (oi := { dst := some 27, op := Op.load 3 (Operand.tmp 26), type := 3, pos := "l2_words.go:192", after := #[{ on := 2, ground := Ground.data }], guard := none }) (v := ?_) rfl (by kernel_rfl) (by kernel_rfl) (by kernel_rfl) (fun _ _ _ h => h) (Or.inl ⟨by rfl, ?_⟩) (by assumption) ?_; rotate_left
            · intro W hW; (try dsimp only at hW); go_simp;  try (with_reducible rfl)
            try simp only [Act.put, List.setIfInBounds_toArray, List.set_cons_zero, List.set_cons_succ]
            refine wpAnyH_take (i := 4) (oi := { dst := some 28, op := Op.fieldAddr 31 (Operand.tmp 2) 0, type := 0, pos := "l2_words.go:192", after := #[], guard := none }) (v := ?_) rfl (by kernel_rfl) (by kernel_rfl) (by kernel_rfl) (fun _ _ _ h => h) (Or.inl ⟨by rfl, ?_⟩) (by assumption) ?_; rotate_left
            · intro W hW; (try dsimp only at hW); go_simp;  try (with_reducible rfl)
            try simp only [Act.put, List.setIfInBounds_toArray, List.set_cons_zero, List.set_cons_succ]
            refine wpAnyH_take (i := 5) (oi := { dst := some 29, op := Op.load 28 (Operand.tmp 28), type := 28, pos := "l2_words.go:192", after := #[{ on := 4, ground := Ground.data }], guard := none }) (v := ?_) rfl (by kernel_rfl) (by kernel_rfl) (by kernel_rfl) (fun _ _ _ h => h) (Or.inl ⟨by rfl, ?_⟩) (by assumption) ?_; rotate_left
            · intro W hW; (try dsimp only at hW); go_simp;  try (with_reducible rfl)
            try simp only [Act.put, List.setIfInBounds_toArray, List.set_cons_zero, List.set_cons_succ]
            refine wpAnyH_ready (rs := [6]) (by kernel_rfl) (by simp) (AllReadyH.cons (i := 6) (o := { dst := some 30, op := Op.call { callee := Callee.value (Operand.func 87), args := #[Operand.tmp 29], argTypes := #[28] }, type := 3, pos := "l2_words.go:192", after := #[{ on := 5, ground := Ground.data }], guard := none }) rfl (fun K hK => ?_) AllReadyH.nil)
            go_simp
            refine ((unhide CE) _).mono ?_; rintro e w8 ⟨rfl, hb⟩
            try go_wp2_with fail
            refine hK.out _ _ (by (try dsimp only); first | assumption | exact s7 | exact keep7 (by assumption) (by assumption)) (fun hHeld => ?_)
            clear hK K
            try simp only [Act.put, List.setIfInBounds_toArray, List.set_cons_zero, List.set_cons_succ]
            refine wpAnyH_take (i := 7) (oi := { dst := some 31, op := Op.binOp BinOp.eql 3 (Operand.tmp 27) (Operand.tmp 30) 3, type := 4, pos := "l2_words.go:192", after := #[{ on := 3, ground := Ground.data }, { on := 6, ground := Ground.data }], guard := none }) (v := ?_) rfl (by kernel_rfl) (by kernel_rfl) (by kernel_rfl) (fun _ _ _ h => h) (Or.inl ⟨by rfl, ?_⟩) (by assumption) ?_; rotate_left
            · intro W hW; (try dsimp only at hW); go_simp;  try (with_reducible rfl)
            try simp only [Act.put, List.setIfInBounds_toArray, List.set_cons_zero, List.set_cons_succ]
            refine wpAnyH_done (by kernel_rfl) ?_ _
            have hb := hHeld.1
            clear hHeld s7 x7
            have W8 := own_below W7 hb
            have D8 := own_below D7 hb
            have P8 := PK.below P7 hb
            have K8 := K7.below hb K7.lt
            have R8 := R7.below hb R7.lt
            have B8 := below_next (Nat.le_refl _) B7 hb
            clear W7 D7 P7 K7 R7 B7 hb
            have x8 := (B8.cell (p := ⟨pg, po + k, none⟩) hpg).trans hpx
            have s8 : Below w8.heap.size w8 w8.drew ∧ w8.drew.cell? ⟨w.heap.size, 0, none⟩ = some (.int .i64 o) ∧ w8.drew.cell? ⟨w.heap.size, 1, none⟩ = some (.int .i64 l) ∧ w8.drew.cell? ⟨w.heap.size, 2, none⟩ = some (.int .i64 m) ∧ w8.drew.cell? ⟨w.heap.size, 3, none⟩ = some (.slice A' P.length c') ∧ w8.drew.cell? ⟨w.heap.size, 4, none⟩ = some (.int .i64 b) ∧ w8.drew.cell? ⟨w.heap.size, 5, none⟩ = some (.int .i64 t') ∧ w8.drew.cell? ⟨pg, po + k, none⟩ = some (.int .i64 x) := ⟨(Below.refl _ _).drew, K8.cell 0, K8.cell 1, K8.cell 2, K8.cell 3, K8.cell 4, K8.cell 5, x8⟩
            go_wp2_with fail
            refine wp_region_held_drew (S := (fun W => Below w8.heap.size w8 W ∧ W.cell? ⟨w.heap.size, 0, none⟩ = some (.int .i64 o) ∧ W.cell? ⟨w.heap.size, 1, none⟩ = some (.int .i64 l) ∧ W.cell? ⟨w.heap.size, 2, none⟩ = some (.int .i64 m) ∧ W.cell? ⟨w.heap.size, 3, none⟩ = some (.slice A' P.length c') ∧ W.cell? ⟨w.heap.size, 4, none⟩ = some (.int .i64 b) ∧ W.cell? ⟨w.heap.size, 5, none⟩ = some (.int .i64 t') ∧ W.cell? ⟨pg, po + k, none⟩ = some (.int .i64 x))) (by kernel_rfl) (by first | assumption | exact s8 | exact keep7 (by assumption) (by assumption)) (fun hHeld => ?_)
            refine wpAnyH_take (i := 0) (oi := { dst := some 41, op := Op.move (Operand.tmp 1), type := 38, pos := "l2_words.go:195", after := #[], guard := none }) (v := ?_) rfl (by kernel_rfl) (by kernel_rfl) (by kernel_rfl) (fun _ _ _ h => h) (Or.inl ⟨by rfl, ?_⟩) (by assumption) ?_; rotate_left
            · intro W hW; (try dsimp only at hW); go_simp;  try (with_reducible rfl)
            try simp only [Act.put, List.setIfInBounds_toArray, List.set_cons_zero, List.set_cons_succ]
            refine wpAnyH_take (i := 1) (oi := { dst := some 42, op := Op.move (Operand.tmp 10), type := 3, pos := "l2_words.go:195", after := #[], guard := none }) (v := ?_) rfl (by kernel_rfl) (by kernel_rfl) (by kernel_rfl) (fun _ _ _ h => h) (Or.inl ⟨by rfl, ?_⟩) (by assumption) ?_; rotate_left
            · intro W hW; (try dsimp only at hW); go_simp;  try (with_reducible rfl)
            try simp only [Act.put, List.setIfInBounds_toArray, List.set_cons_zero, List.set_cons_succ]
            refine wpAnyH_take (i := 2) (oi := { dst := some 43, op := Op.indexAddr 38 (Operand.tmp 41) (Operand.tmp 42), type := 0, pos := "l2_words.go:195", after := #[{ on := 0, ground := Ground.data }, { on := 1, ground := Ground.data }], guard := none }) (v := ?_) rfl (by kernel_rfl) (by kernel_rfl) (by kernel_rfl) (fun _ _ _ h => h) (Or.inl ⟨by rfl, ?_⟩) (by assumption) ?_; rotate_left
            · intro W hW; (try dsimp only at hW); go_simp;  try (with_reducible rfl)
            try simp only [Act.put, List.setIfInBounds_toArray, List.set_cons_zero, List.set_cons_succ]
            refine wpAnyH_take (i := 3) (oi := { dst := some 44, op := Op.load 3 (Operand.tmp 43), type := 3, pos := "l2_words.go:195", after := #[{ on := 2, ground := Ground.data }], guard := none }) (v := ?_) rfl (by kernel_rfl) (by kernel_rfl) (by kernel_rfl) (fun _ _ _ h => h) (Or.inl ⟨by rfl, ?_⟩) (by assumption) ?_; rotate_left
            · intro W hW; (try dsimp only at hW); go_simp;  try (with_reducible rfl)
            try simp only [Act.put, List.setIfInBounds_toArray, List.set_cons_zero, List.set_cons_succ]
            refine wpAnyH_take (i := 4) (oi := { dst := some 45, op := Op.fieldAddr 31 (Operand.tmp 2) 0, type := 0, pos := "l2_words.go:195", after := #[], guard := none }) (v := ?_) rfl (by kernel_rfl) (by kernel_rfl) (by kernel_rfl) (fun _ _ _ h => h) (Or.inl ⟨by rfl, ?_⟩) (by assumption) ?_; rotate_left
            · intro W hW; (try dsimp only at hW); go_simp;  try (with_reducible rfl)
            try simp only [Act.put, List.setIfInBounds_toArray, List.set_cons_zero, List.set_cons_succ]
            refine wpAnyH_take (i := 5) (oi := { dst := some 46, op := Op.load 28 (Operand.tmp 45), type := 28, pos := "l2_words.go:195", after := #[{ on := 4, ground := Ground.data }], guard := none }) (v := ?_) rfl (by kernel_rfl) (by kernel_rfl) (by kernel_rfl) (fun _ _ _ h => h) (Or.inl ⟨by rfl, ?_⟩) (by assumption) ?_; rotate_left
            · intro W hW; (try dsimp only at hW); go_simp;  try (with_reducible rfl)
            try simp only [Act.put, List.setIfInBounds_toArray, List.set_cons_zero, List.set_cons_succ]
            refine wpAnyH_ready (rs := [6]) (by kernel_rfl) (by simp) (AllReadyH.cons (i := 6) (o := { dst := some 47, op := Op.call { callee := Callee.value (Operand.func 57), args := #[Operand.tmp 46], argTypes := #[28] }, type := 3, pos := "l2_words.go:195", after := #[{ on := 5, ground := Ground.data }], guard := none }) rfl (fun K hK => ?_) AllReadyH.nil)
            go_simp
            refine ((unhide CC) _).mono ?_; rintro e w9 ⟨rfl, hb⟩
            try go_wp2_with fail
            refine hK.out _ _ (by (try dsimp only); first | assumption | exact s8 | exact keep7 (by assumption) (by assumption)) (fun hHeld => ?_)
            clear hK K
            try simp only [Act.put, List.setIfInBounds_toArray, List.set_cons_zero, List.set_cons_succ]
            refine wpAnyH_take (i := 7) (oi := { dst := some 48, op := Op.binOp BinOp.neq 3 (Operand.tmp 44) (Operand.tmp 47) 3, type := 4, pos := "l2_words.go:195", after := #[{ on := 3, ground := Ground.data }, { on := 6, ground := Ground.data }], guard := none }) (v := ?_) rfl (by kernel_rfl) (by kernel_rfl) (by kernel_rfl) (fun _ _ _ h => h) (Or.inl ⟨by rfl, ?_⟩) (by assumption) ?_; rotate_left
            · intro W hW; (try dsimp only at hW); go_simp;  try (with_reducible rfl)
            try simp only [Act.put, List.setIfInBounds_toArray, List.set_cons_zero, List.set_cons_succ]
            refine wpAnyH_done (by kernel_rfl) ?_ _
            have hb := hHeld.1
            clear hHeld s8 x8
            have W9 := own_below W8 hb
            have D9 := own_below D8 hb
            have P9 := PK.below P8 hb
            have K9 := K8.below hb K8.lt
            have R9 := R8.below hb R8.lt
            have B9 := below_next (Nat.le_refl _) B8 hb
            clear W8 D8 P8 K8 R8 B8 hb
            have x9 := (B9.cell (p := ⟨pg, po + k, none⟩) hpg).trans hpx
            have s9 : Below w9.heap.size w9 w9.drew ∧ w9.drew.cell? ⟨w.heap.size, 0, none⟩ = some (.int .i64 o) ∧ w9.drew.cell? ⟨w.heap.size, 1, none⟩ = some (.int .i64 l) ∧ w9.drew.cell? ⟨w.heap.size, 2, none⟩ = some (.int .i64 m) ∧ w9.drew.cell? ⟨w.heap.size, 3, none⟩ = some (.slice A' P.length c') ∧ w9.drew.cell? ⟨w.heap.size, 4, none⟩ = some (.int .i64 b) ∧ w9.drew.cell? ⟨w.heap.size, 5, none⟩ = some (.int .i64 t') ∧ w9.drew.cell? ⟨pg, po + k, none⟩ = some (.int .i64 x) := ⟨(Below.refl _ _).drew, K9.cell 0, K9.cell 1, K9.cell 2, K9.cell 3, K9.cell 4, K9.cell 5, x9⟩
            go_wp2_with fail
            refine wp_region_held_drew (S := (fun W => Below w9.heap.size w9 W ∧ W.cell? ⟨w.heap.size, 0, none⟩ = some (.int .i64 o) ∧ W.cell? ⟨w.heap.size, 1, none⟩ = some (.int .i64 l) ∧ W.cell? ⟨w.heap.size, 2, none⟩ = some (.int .i64 m) ∧ W.cell? ⟨w.heap.size, 3, none⟩ = some (.slice A' P.length c') ∧ W.cell? ⟨w.heap.size, 4, none⟩ = some (.int .i64 b) ∧ W.cell? ⟨w.heap.size, 5, none⟩ = some (.int .i64 t') ∧ W.cell? ⟨pg, po + k, none⟩ = some (.int .i64 x))) (by kernel_rfl) (by first | assumption | exact s9 | exact keep7 (by assumption) (by assumption)) (fun hHeld => ?_)
            refine wpAnyH_take (i := 0) (oi := { dst := some 49, op := Op.load 31 (Operand.tmp 2), type := 31, pos := "l2_words.go:196", after := #[], guard := none }) (v := ?_) rfl (by kernel_rfl) (by kernel_rfl) (by kernel_rfl) (fun _ _ _ h => h) (Or.inl ⟨by rfl, ?_⟩) (by assumption) ?_; rotate_left
            · intro W hW; (try dsimp only at hW); go_simp;  try (with_reducible rfl)
            try simp only [Act.put, List.setIfInBounds_toArray, List.set_cons_zero, List.set_cons_succ]
            refine wpAnyH_take (i := 1) (oi := { dst := some 50, op := Op.move (Operand.tmp 1), type := 38, pos := "l2_words.go:196", after := #[], guard := none }) (v := ?_) rfl (by kernel_rfl) (by kernel_rfl) (by kernel_rfl) (fun _ _ _ h => h) (Or.inl ⟨by rfl, ?_⟩) (by assumption) ?_; rotate_left
            · intro W hW; (try dsimp only at hW); go_simp;  try (with_reducible rfl)
            try simp only [Act.put, List.setIfInBounds_toArray, List.set_cons_zero, List.set_cons_succ]
            refine wpAnyH_take (i := 2) (oi := { dst := some 51, op := Op.move (Operand.tmp 10), type := 3, pos := "l2_words.go:196", after := #[], guard := none }) (v := ?_) rfl (by kernel_rfl) (by kernel_rfl) (by kernel_rfl) (fun _ _ _ h => h) (Or.inl ⟨by rfl, ?_⟩) (by assumption) ?_; rotate_left
            · intro W hW; (try dsimp only at hW); go_simp;  try (with_reducible rfl)
            try simp only [Act.put, List.setIfInBounds_toArray, List.set_cons_zero, List.set_cons_succ]
            refine wpAnyH_take (i := 3) (oi := { dst := some 52, op := Op.indexAddr 38 (Operand.tmp 50) (Operand.tmp 51), type := 0, pos := "l2_words.go:196", after := #[{ on := 1, ground := Ground.data }, { on := 2, ground := Ground.data }], guard := none }) (v := ?_) rfl (by kernel_rfl) (by kernel_rfl) (by kernel_rfl) (fun _ _ _ h => h) (Or.inl ⟨by rfl, ?_⟩) (by assumption) ?_; rotate_left
            · intro W hW; (try dsimp only at hW); go_simp;  try (with_reducible rfl)
            try simp only [Act.put, List.setIfInBounds_toArray, List.set_cons_zero, List.set_cons_succ]
            refine wpAnyH_take (i := 4) (oi := { dst := some 53, op := Op.load 3 (Operand.tmp 52), type := 3, pos := "l2_words.go:196", after := #[{ on := 3, ground := Ground.data }], guard := none }) (v := ?_) rfl (by kernel_rfl) (by kernel_rfl) (by kernel_rfl) (fun _ _ _ h => h) (Or.inl ⟨by rfl, ?_⟩) (by assumption) ?_; rotate_left
            · intro W hW; (try dsimp only at hW); go_simp;  try (with_reducible rfl)
            try simp only [Act.put, List.setIfInBounds_toArray, List.set_cons_zero, List.set_cons_succ]
            refine wpAnyH_ready (rs := [5]) (by kernel_rfl) (by simp) (AllReadyH.cons (i := 5) (o := { dst := some 54, op := Op.call { callee := Callee.value (Operand.func 58), args := #[Operand.tmp 49, Operand.tmp 53], argTypes := #[31, 3] }, type := 4, pos := "l2_words.go:196", after := #[{ on := 0, ground := Ground.data }, { on := 4, ground := Ground.data }], guard := none }) rfl (fun K hK => ?_) AllReadyH.nil)
            go_simp
            refine ((unhide CF) _).mono ?_; rintro e w10 ⟨rfl, hb⟩
            try go_wp2_with fail
            refine hK.out _ _ (by (try dsimp only); first | assumption | exact s9 | exact keep7 (by assumption) (by assumption)) (fun hHeld => ?_)
            clear hK K
            try simp only [Act.put, List.setIfInBounds_toArray, List.set_cons_zero, List.set_cons_succ]
            refine wpAnyH_take (i := 6) (oi := { dst := some 55, op := Op.unOp UnOp.not 4 (Operand.tmp 54), type := 4, pos := "l2_words.go:196", after := #[{ on := 5, ground := Ground.data }], guard := none }) (v := ?_) rfl (by kernel_rfl) (by kernel_rfl) (by kernel_rfl) (fun _ _ _ h => h) (Or.inl ⟨by rfl, ?_⟩) (by assumption) ?_; rotate_left
            · intro W hW; (try dsimp only at hW); go_simp;  try (with_reducible rfl)
            try simp only [Act.put, List.setIfInBounds_toArray, List.set_cons_zero, List.set_cons_succ]
            refine wpAnyH_take (i := 7) (oi := { dst := some 56, op := Op.move (Operand.tmp 55), type := 4, pos := "l2_words.go:196", after := #[{ on := 6, ground := Ground.data }, { on := 5, ground := Ground.chain }], guard := none }) (v := ?_) rfl (by kernel_rfl) (by kernel_rfl) (by kernel_rfl) (fun _ _ _ h => h) (Or.inl ⟨by rfl, ?_⟩) (by assumption) ?_; rotate_left
            · intro W hW; (try dsimp only at hW); go_simp;  try (with_reducible rfl)
            try simp only [Act.put, List.setIfInBounds_toArray, List.set_cons_zero, List.set_cons_succ]
            refine wpAnyH_take (i := 8) (oi := { dst := some 57, op := Op.move (Operand.tmp 9), type := 48, pos := "l2_words.go:196", after := #[{ on := 7, ground := Ground.guard }], guard := some (7, false) }) rfl (by kernel_rfl) (by kernel_rfl) (by kernel_rfl) (fun _ _ _ h => h) (Or.inr ⟨by rfl, rfl⟩) (by assumption) ?_
            try simp only [Act.put, List.setIfInBounds_toArray, List.set_cons_zero, List.set_cons_succ]
            refine wpAnyH_take (i := 9) (oi := { dst := some 58, op := Op.call { callee := Callee.builtin Builtin.len, args := #[Operand.tmp 57], argTypes := #[48] }, type := 3, pos := "l2_words.go:196", after := #[{ on := 8, ground := Ground.data }, { on := 7, ground := Ground.guard }], guard := some (7, false) }) rfl (by kernel_rfl) (by kernel_rfl) (by kernel_rfl) (fun _ _ _ h => h) (Or.inr ⟨by rfl, rfl⟩) (by assumption) ?_
            try simp only [Act.put, List.setIfInBounds_toArray, List.set_cons_zero, List.set_cons_succ]
            refine wpAnyH_take (i := 10) (oi := { dst := some 59, op := Op.binOp BinOp.gtr 3 (Operand.tmp 58) (Operand.const (Value.int IntKind.i64 2000)) 3, type := 4, pos := "l2_words.go:196", after := #[{ on := 9, ground := Ground.data }, { on := 7, ground := Ground.guard }], guard := some (7, false) }) rfl (by kernel_rfl) (by kernel_rfl) (by kernel_rfl) (fun _ _ _ h => h) (Or.inr ⟨by rfl, rfl⟩) (by assumption) ?_
            try simp only [Act.put, List.setIfInBounds_toArray, List.set_cons_zero, List.set_cons_succ]
            refine wpAnyH_take (i := 11) (oi := { dst := some 60, op := Op.pick (Operand.tmp 56) (Operand.const (Value.bool true)) (Operand.tmp 59), type := 4, pos := "l2_words.go:196", after := #[{ on := 7, ground := Ground.data }, { on := 10, ground := Ground.data }], guard := none }) (v := ?_) rfl (by kernel_rfl) (by kernel_rfl) (by kernel_rfl) (fun _ _ _ h => h) (Or.inl ⟨by rfl, ?_⟩) (by assumption) ?_; rotate_left
            · intro W hW; (try dsimp only at hW); go_simp;  try (with_reducible rfl)
            try simp only [Act.put, List.setIfInBounds_toArray, List.set_cons_zero, List.set_cons_succ]
            refine wpAnyH_done (by kernel_rfl) ?_ _
            have hb := hHeld.1
            clear hHeld s9 x9
            have W10 := own_below W9 hb
            have D10 := own_below D9 hb
            have P10 := PK.below P9 hb
            have K10 := K9.below hb K9.lt
            have R10 := R9.below hb R9.lt
            have B10 := below_next (Nat.le_refl _) B9 hb
            clear W9 D9 P9 K9 R9 B9 hb
            have a0 : w10.cell? ⟨w.heap.size, 0, none⟩ = some (.int .i64 o) := K10.cell 0
            have a1 : w10.cell? ⟨w.heap.size, 1, none⟩ = some (.int .i64 l) := K10.cell 1
            have a2 : w10.cell? ⟨w.heap.size, 2, none⟩ = some (.int .i64 m) := K10.cell 2
            have a3 : w10.cell? ⟨w.heap.size, 3, none⟩ = some (.slice A' P.length c') := K10.cell 3
            have a4 : w10.cell? ⟨w.heap.size, 4, none⟩ = some (.int .i64 b) := K10.cell 4
            have a5 : w10.cell? ⟨w.heap.size, 5, none⟩ = some (.int .i64 t') := K10.cell 5
            have r0 : w10.cell? ⟨(w.heap.size + 1), 0, none⟩ = some (.int .i64 0) := R10.cell 0
            have r1 : w10.cell? ⟨(w.heap.size + 1), 1, none⟩ = some (.int .i64 0) := R10.cell 1
            have r2 : w10.cell? ⟨(w.heap.size + 1), 2, none⟩ = some (.int .i64 0) := R10.cell 2
            have r3 : w10.cell? ⟨(w.heap.size + 1), 3, none⟩ = some (.slice none 0 0) := R10.cell 3
            have r4 : w10.cell? ⟨(w.heap.size + 1), 4, none⟩ = some (.int .i64 0) := R10.cell 4
            have r5 : w10.cell? ⟨(w.heap.size + 1), 5, none⟩ = some (.int .i64 0) := R10.cell 5
            have fr0 := R10.frozen 0
            have fr1 := R10.frozen 1
            have fr2 := R10.frozen 2
            have fr3 := R10.frozen 3
            have fr4 := R10.frozen 4
            have fr5 := R10.frozen 5
            have RS := blk6_set R10 (.int .i64 o) (.int .i64 l) (.int .i64 m) (.slice A' P.length c') (.int .i64 b) (.int .i64 t')
            have WS := W10.kept (only6 w10 (w.heap.size + 1) (.int .i64 o) (.int .i64 l) (.int .i64 m) (.slice A' P.length c') (.int .i64 b) (.int .i64 t')) (.inr (own_blk_ne W10 R10 (by decide)))
            have BS := below_set6 (g := w.heap.size + 1) B10 (by omega) (.int .i64 o) (.int .i64 l) (.int .i64 m) (.slice A' P.length c') (.int .i64 b) (.int .i64 t')
            clear W10 D10 P10 K10 B10
            go_wp2_with fail
            have q0 := RS.cell 0
            have q1 := RS.cell 1
            have q2 := RS.cell 2
            have q3 := RS.cell 3
            have q4 := RS.cell 4
            have q5 := RS.cell 5
            exact bodyPost_ret (v := .tuple #[kv o l m A' P.length c' b t', .slice Aw2 (ws.length + 1) cw2, .string (str []), .bool false]) (by simp [results, Try.results72, go_sem, q0, q1, q2, q3, q4, q5]; try rfl) rfl (swalk_ret hw1.symm rfl (OwnI.of_own hw1 (own_ints WS)) (by omega) (by simp) HN.out BS)
          · by_cases hd : ds.length ≤ 2000
            · skip
              have hcc := Sx.can_code HK.out hc
              have hgo : Sx.goB l m P.length t' x = true := by simp [Sx.goB, hc]
              obtain ⟨u, hu⟩ : ∃ u, u = str (Sx.anyW l P t' x) := ⟨_, rfl⟩
              have CT := hide (fun w2 (hp : PR w2 w2.heap.size A' P) => by have := spec_l2Any o l m A' c' b t' x P w2 hp n0 n1 n4 h3 hcc; rwa [← hu] at this)
              have hus : u.size ≤ 1026 := by rw [hu, str_size]; have := (Sx.any_length l P t' x).2; omega
              have hwd : Sx.wdOf l P t' x = u.data.toList := by rw [Sx.wd_word hx2, hu]; rfl
              have hdn : (ds ++ u.data.toList).length = ds.length + u.size := by rw [List.length_append, Sx.len_bytes]
              have HN : (ds ++ Sx.wdOf l P t' x).length ≤ 2000 → _ := fun hd2 => Sx.acc_go (HR.out hd) hlt HX.out hx1 hgo (by rw [← List.length_append]; exact hd2)
              have HM2 : 2000 < (ds ++ Sx.wdOf l P t' x).length → Sx.wk l m b xs ps t 0 = none := fun hd2 => Sx.acc_long (HR.out hd) hlt HX.out hx1 (by rw [← List.length_append]; exact hd2)
              rw [hwd] at HN HM2
              have ee : (x == Sx.two l + 1) = false := by rw [beq_eq_false_iff_ne]; exact hx1
              have ec : (x != Sx.two l) = true := by rw [bne_iff_ne]; exact hx2
              have CF := hide (fun wx => by have := spec_l2Follows o l m A' c' b t' x P wx n0 n1 (by omega) n3 n4; rwa [hc] at this)
              obtain ⟨P2, hP2⟩ : ∃ P2, P2 = Sx.stepP l m P b t' x := ⟨_, rfl⟩
              obtain ⟨t2, hT2⟩ : ∃ t2, t2 = Sx.advT l x := ⟨_, rfl⟩
              have HK2 := Sx.step_ok HK.out hgo
              have CS := fun w2 (hp : PR w2 w2.heap.size A' P) => spec_l2Step o l m A' c' b t' x P w2 hp hcap HK.out hgo
              rw [← hP2, ← hT2] at HN HK2 CS
              rw [← hV] at HN
              have HN := hide HN
              have HM2 := hide HM2
              have HK2 := hide HK2
              have CS := hide CS
              have hdI : ¬ (2000 : Int) < (ds.length : Int) := by omega
              clear hx1 hx2 HR HM HK hV hc hcc hgo hu hwd hP2 hT2
              go_wp2_with fail
              refine ((unhide CW) _).mono ?_; rintro e w6 ⟨rfl, hb6⟩
              have W6 := own_below W5 hb6
              have D6 := own_below D5 hb6
              have P6 := PK.below P5 hb6
              have K6 := K5.below hb6 K5.lt
              have R6 := R5.below hb6 R5.lt
              have B6 := below_next (Nat.le_refl _) B5 hb6
              clear W5 D5 P5 K5 R5 B5 hb6 CW a0 a1 a2 a3 a4 a5
              go_wp2_with (at_builtin; refine wpList_append_any _ rfl _ _ _ rfl w.heap.size 3 i0 (.int .i64 0) 1 8 Try.underlying38 hi0 hz0 hz1 hz3 (by rfl) (by decide) (.slice Aw ws.length cw) ws.length (ivals ws) rfl (W6.alloc _) _ _ 1 1 [.int .i64 V] rfl (reads_one _ _ _) (by simp [Value.oneCell']) (by simp only [maxLen]; omega) (by omega) (by have := B6.size; simp; omega) ?_; intro v' w7 hown9 hg9 _; have W8 := W6.alloc (.cells #[.int .i64 V] 3); have D7 := own_other (D6.alloc (.cells #[.int .i64 V] 3)) W8 hg9 (by decide); have P7 := PK.other (P6.alloc (.cells #[.int .i64 V] 3)) W8 hg9 (by decide); have K7 := blk_other (K6.alloc (.cells #[.int .i64 V] 3)) W8 hg9 (by decide); have R7 := blk_other (R6.alloc (.cells #[.int .i64 V] 3)) W8 hg9 (by decide); have B7 := (B6.alloc B6.size (.cells #[.int .i64 V] 3)).grown hg9 (by have := B6.size; simp; omega) (fun g hgg => (W8.lt g hgg).1); have W7 := own_nodup hown9; obtain ⟨Aw2, cw2, rfl⟩ := own_shapeN W7; clear W8 hown9 hg9; clear W6 D6 P6 K6 R6 B6)
              have x7 := (B7.cell (p := ⟨pg, po + k, none⟩) hpg).trans hpx
              have s7 : Below w7.heap.size w7 w7.drew ∧ w7.drew.cell? ⟨w.heap.size, 0, none⟩ = some (.int .i64 o) ∧ w7.drew.cell? ⟨w.heap.size, 1, none⟩ = some (.int .i64 l) ∧ w7.drew.cell? ⟨w.heap.size, 2, none⟩ = some (.int .i64 m) ∧ w7.drew.cell? ⟨w.heap.size, 3, none⟩ = some (.slice A' P.length c') ∧ w7.drew.cell? ⟨w.heap.size, 4, none⟩ = some (.int .i64 b) ∧ w7.drew.cell? ⟨w.heap.size, 5, none⟩ = some (.int .i64 t') ∧ w7.drew.cell? ⟨pg, po + k, none⟩ = some (.int .i64 x) := ⟨(Below.refl _ _).drew, K7.cell 0, K7.cell 1, K7.cell 2, K7.cell 3, K7.cell 4, K7.cell 5, x7⟩
              refine wp_region_held_drew (S := (fun W => Below w7.heap.size w7 W ∧ W.cell? ⟨w.heap.size, 0, none⟩ = some (.int .i64 o) ∧ W.cell? ⟨w.heap.size, 1, none⟩ = some (.int .i64 l) ∧ W.cell? ⟨w.heap.size, 2, none⟩ = some (.int .i64 m) ∧ W.cell? ⟨w.heap.size, 3, none⟩ = some (.slice A' P.length c') ∧ W.cell? ⟨w.heap.size, 4, none⟩ = some (.int .i64 b) ∧ W.cell? ⟨w.heap.size, 5, none⟩ = some (.int .i64 t') ∧ W.cell? ⟨pg, po + k, none⟩ = some (.int .i64 x))) (by kernel_rfl) (by first | assumption | exact s7 | exact keep7 (by assumption) (by assumption)) (fun hHeld => ?_)
              refine wpAnyH_take (i := 0) (oi := { dst := some 24, op := Op.move (Operand.tmp 1), type := 38, pos := "l2_words.go:192", after := #[], guard := none }) (v := ?_) rfl (by kernel_rfl) (by kernel_rfl) (by kernel_rfl) (fun _ _ _ h => h) (Or.inl ⟨by rfl, ?_⟩) (by assumption) ?_; rotate_left
              · intro W hW; (try dsimp only at hW); go_simp;  try (with_reducible rfl)
              try simp only [Act.put, List.setIfInBounds_toArray, List.set_cons_zero, List.set_cons_succ]
              refine wpAnyH_take (i := 1) (oi := { dst := some 25, op := Op.move (Operand.tmp 10), type := 3, pos := "l2_words.go:192", after := #[], guard := none }) (v := ?_) rfl (by kernel_rfl) (by kernel_rfl) (by kernel_rfl) (fun _ _ _ h => h) (Or.inl ⟨by rfl, ?_⟩) (by assumption) ?_; rotate_left
              · intro W hW; (try dsimp only at hW); go_simp;  try (with_reducible rfl)
              try simp only [Act.put, List.setIfInBounds_toArray, List.set_cons_zero, List.set_cons_succ]
              refine wpAnyH_take (i := 2) (oi := { dst := some 26, op := Op.indexAddr 38 (Operand.tmp 24) (Operand.tmp 25), type := 0, pos := "l2_words.go:192", after := #[{ on := 0, ground := Ground.data }, { on := 1, ground := Ground.data }], guard := none }) (v := ?_) rfl (by kernel_rfl) (by kernel_rfl) (by kernel_rfl) (fun _ _ _ h => h) (Or.inl ⟨by rfl, ?_⟩) (by assumption) ?_; rotate_left
              · intro W hW; (try dsimp only at hW); go_simp;  try (with_reducible rfl)
              try simp only [Act.put, List.setIfInBounds_toArray, List.set_cons_zero, List.set_cons_succ]
              refine wpAnyH_take (i := 3) (oi := { dst := some 27, op := Op.load 3 (Operand.tmp 26), type := 3, pos := "l2_words.go:192", after := #[{ on := 2, ground := Ground.data }], guard := none }) (v := ?_) rfl (by kernel_rfl) (by kernel_rfl) (by kernel_rfl) (fun _ _ _ h => h) (Or.inl ⟨by rfl, ?_⟩) (by assumption) ?_; rotate_left
              · intro W hW; (try dsimp only at hW); go_simp;  try (with_reducible rfl)
              try simp only [Act.put, List.setIfInBounds_toArray, List.set_cons_zero, List.set_cons_succ]
              refine wpAnyH_take (i := 4) (oi := { dst := some 28, op := Op.fieldAddr 31 (Operand.tmp 2) 0, type := 0, pos := "l2_words.go:192", after := #[], guard := none }) (v := ?_) rfl (by kernel_rfl) (by kernel_rfl) (by kernel_rfl) (fun _ _ _ h => h) (Or.inl ⟨by rfl, ?_⟩) (by assumption) ?_; rotate_left
              · intro W hW; (try dsimp only at hW); go_simp;  try (with_reducible rfl)
              try simp only [Act.put, List.setIfInBounds_toArray, List.set_cons_zero, List.set_cons_succ]
              refine wpAnyH_take (i := 5) (oi := { dst := some 29, op := Op.load 28 (Operand.tmp 28), type := 28, pos := "l2_words.go:192", after := #[{ on := 4, ground := Ground.data }], guard := none }) (v := ?_) rfl (by kernel_rfl) (by kernel_rfl) (by kernel_rfl) (fun _ _ _ h => h) (Or.inl ⟨by rfl, ?_⟩) (by assumption) ?_; rotate_left
              · intro W hW; (try dsimp only at hW); go_simp;  try (with_reducible rfl)
              try simp only [Act.put, List.setIfInBounds_toArray, List.set_cons_zero, List.set_cons_succ]
              refine wpAnyH_ready (rs := [6]) (by kernel_rfl) (by simp) (AllReadyH.cons (i := 6) (o := { dst := some 30, op := Op.call { callee := Callee.value (Operand.func 87), args := #[Operand.tmp 29], argTypes := #[28] }, type := 3, pos := "l2_words.go:192", after := #[{ on := 5, ground := Ground.data }], guard := none }) rfl (fun K hK => ?_) AllReadyH.nil)
              go_simp
              refine ((unhide CE) _).mono ?_; rintro e w8 ⟨rfl, hb⟩
              try go_wp2_with fail
              refine hK.out _ _ (by (try dsimp only); first | assumption | exact s7 | exact keep7 (by assumption) (by assumption)) (fun hHeld => ?_)
              clear hK K
              try simp only [Act.put, List.setIfInBounds_toArray, List.set_cons_zero, List.set_cons_succ]
              refine wpAnyH_take (i := 7) (oi := { dst := some 31, op := Op.binOp BinOp.eql 3 (Operand.tmp 27) (Operand.tmp 30) 3, type := 4, pos := "l2_words.go:192", after := #[{ on := 3, ground := Ground.data }, { on := 6, ground := Ground.data }], guard := none }) (v := ?_) rfl (by kernel_rfl) (by kernel_rfl) (by kernel_rfl) (fun _ _ _ h => h) (Or.inl ⟨by rfl, ?_⟩) (by assumption) ?_; rotate_left
              · intro W hW; (try dsimp only at hW); go_simp;  try (with_reducible rfl)
              try simp only [Act.put, List.setIfInBounds_toArray, List.set_cons_zero, List.set_cons_succ]
              refine wpAnyH_done (by kernel_rfl) ?_ _
              have hb := hHeld.1
              clear hHeld s7 x7
              have W8 := own_below W7 hb
              have D8 := own_below D7 hb
              have P8 := PK.below P7 hb
              have K8 := K7.below hb K7.lt
              have R8 := R7.below hb R7.lt
              have B8 := below_next (Nat.le_refl _) B7 hb
              clear W7 D7 P7 K7 R7 B7 hb
              have x8 := (B8.cell (p := ⟨pg, po + k, none⟩) hpg).trans hpx
              have s8 : Below w8.heap.size w8 w8.drew ∧ w8.drew.cell? ⟨w.heap.size, 0, none⟩ = some (.int .i64 o) ∧ w8.drew.cell? ⟨w.heap.size, 1, none⟩ = some (.int .i64 l) ∧ w8.drew.cell? ⟨w.heap.size, 2, none⟩ = some (.int .i64 m) ∧ w8.drew.cell? ⟨w.heap.size, 3, none⟩ = some (.slice A' P.length c') ∧ w8.drew.cell? ⟨w.heap.size, 4, none⟩ = some (.int .i64 b) ∧ w8.drew.cell? ⟨w.heap.size, 5, none⟩ = some (.int .i64 t') ∧ w8.drew.cell? ⟨pg, po + k, none⟩ = some (.int .i64 x) := ⟨(Below.refl _ _).drew, K8.cell 0, K8.cell 1, K8.cell 2, K8.cell 3, K8.cell 4, K8.cell 5, x8⟩
              go_wp2_with fail
              refine wp_region_held_drew (S := (fun W => Below w8.heap.size w8 W ∧ W.cell? ⟨w.heap.size, 0, none⟩ = some (.int .i64 o) ∧ W.cell? ⟨w.heap.size, 1, none⟩ = some (.int .i64 l) ∧ W.cell? ⟨w.heap.size, 2, none⟩ = some (.int .i64 m) ∧ W.cell? ⟨w.heap.size, 3, none⟩ = some (.slice A' P.length c') ∧ W.cell? ⟨w.heap.size, 4, none⟩ = some (.int .i64 b) ∧ W.cell? ⟨w.heap.size, 5, none⟩ = some (.int .i64 t') ∧ W.cell? ⟨pg, po + k, none⟩ = some (.int .i64 x))) (by kernel_rfl) (by first | assumption | exact s8 | exact keep7 (by assumption) (by assumption)) (fun hHeld => ?_)
              refine wpAnyH_take (i := 0) (oi := { dst := some 41, op := Op.move (Operand.tmp 1), type := 38, pos := "l2_words.go:195", after := #[], guard := none }) (v := ?_) rfl (by kernel_rfl) (by kernel_rfl) (by kernel_rfl) (fun _ _ _ h => h) (Or.inl ⟨by rfl, ?_⟩) (by assumption) ?_; rotate_left
              · intro W hW; (try dsimp only at hW); go_simp;  try (with_reducible rfl)
              try simp only [Act.put, List.setIfInBounds_toArray, List.set_cons_zero, List.set_cons_succ]
              refine wpAnyH_take (i := 1) (oi := { dst := some 42, op := Op.move (Operand.tmp 10), type := 3, pos := "l2_words.go:195", after := #[], guard := none }) (v := ?_) rfl (by kernel_rfl) (by kernel_rfl) (by kernel_rfl) (fun _ _ _ h => h) (Or.inl ⟨by rfl, ?_⟩) (by assumption) ?_; rotate_left
              · intro W hW; (try dsimp only at hW); go_simp;  try (with_reducible rfl)
              try simp only [Act.put, List.setIfInBounds_toArray, List.set_cons_zero, List.set_cons_succ]
              refine wpAnyH_take (i := 2) (oi := { dst := some 43, op := Op.indexAddr 38 (Operand.tmp 41) (Operand.tmp 42), type := 0, pos := "l2_words.go:195", after := #[{ on := 0, ground := Ground.data }, { on := 1, ground := Ground.data }], guard := none }) (v := ?_) rfl (by kernel_rfl) (by kernel_rfl) (by kernel_rfl) (fun _ _ _ h => h) (Or.inl ⟨by rfl, ?_⟩) (by assumption) ?_; rotate_left
              · intro W hW; (try dsimp only at hW); go_simp;  try (with_reducible rfl)
              try simp only [Act.put, List.setIfInBounds_toArray, List.set_cons_zero, List.set_cons_succ]
              refine wpAnyH_take (i := 3) (oi := { dst := some 44, op := Op.load 3 (Operand.tmp 43), type := 3, pos := "l2_words.go:195", after := #[{ on := 2, ground := Ground.data }], guard := none }) (v := ?_) rfl (by kernel_rfl) (by kernel_rfl) (by kernel_rfl) (fun _ _ _ h => h) (Or.inl ⟨by rfl, ?_⟩) (by assumption) ?_; rotate_left
              · intro W hW; (try dsimp only at hW); go_simp;  try (with_reducible rfl)
              try simp only [Act.put, List.setIfInBounds_toArray, List.set_cons_zero, List.set_cons_succ]
              refine wpAnyH_take (i := 4) (oi := { dst := some 45, op := Op.fieldAddr 31 (Operand.tmp 2) 0, type := 0, pos := "l2_words.go:195", after := #[], guard := none }) (v := ?_) rfl (by kernel_rfl) (by kernel_rfl) (by kernel_rfl) (fun _ _ _ h => h) (Or.inl ⟨by rfl, ?_⟩) (by assumption) ?_; rotate_left
              · intro W hW; (try dsimp only at hW); go_simp;  try (with_reducible rfl)
              try simp only [Act.put, List.setIfInBounds_toArray, List.set_cons_zero, List.set_cons_succ]
              refine wpAnyH_take (i := 5) (oi := { dst := some 46, op := Op.load 28 (Operand.tmp 45), type := 28, pos := "l2_words.go:195", after := #[{ on := 4, ground := Ground.data }], guard := none }) (v := ?_) rfl (by kernel_rfl) (by kernel_rfl) (by kernel_rfl) (fun _ _ _ h => h) (Or.inl ⟨by rfl, ?_⟩) (by assumption) ?_; rotate_left
              · intro W hW; (try dsimp only at hW); go_simp;  try (with_reducible rfl)
              try simp only [Act.put, List.setIfInBounds_toArray, List.set_cons_zero, List.set_cons_succ]
              refine wpAnyH_ready (rs := [6]) (by kernel_rfl) (by simp) (AllReadyH.cons (i := 6) (o := { dst := some 47, op := Op.call { callee := Callee.value (Operand.func 57), args := #[Operand.tmp 46], argTypes := #[28] }, type := 3, pos := "l2_words.go:195", after := #[{ on := 5, ground := Ground.data }], guard := none }) rfl (fun K hK => ?_) AllReadyH.nil)
              go_simp
              refine ((unhide CC) _).mono ?_; rintro e w9 ⟨rfl, hb⟩
              try go_wp2_with fail
              refine hK.out _ _ (by (try dsimp only); first | assumption | exact s8 | exact keep7 (by assumption) (by assumption)) (fun hHeld => ?_)
              clear hK K
              try simp only [Act.put, List.setIfInBounds_toArray, List.set_cons_zero, List.set_cons_succ]
              refine wpAnyH_take (i := 7) (oi := { dst := some 48, op := Op.binOp BinOp.neq 3 (Operand.tmp 44) (Operand.tmp 47) 3, type := 4, pos := "l2_words.go:195", after := #[{ on := 3, ground := Ground.data }, { on := 6, ground := Ground.data }], guard := none }) (v := ?_) rfl (by kernel_rfl) (by kernel_rfl) (by kernel_rfl) (fun _ _ _ h => h) (Or.inl ⟨by rfl, ?_⟩) (by assumption) ?_; rotate_left
              · intro W hW; (try dsimp only at hW); go_simp;  try (with_reducible rfl)
              try simp only [Act.put, List.setIfInBounds_toArray, List.set_cons_zero, List.set_cons_succ]
              refine wpAnyH_done (by kernel_rfl) ?_ _
              have hb := hHeld.1
              clear hHeld s8 x8
              have W9 := own_below W8 hb
              have D9 := own_below D8 hb
              have P9 := PK.below P8 hb
              have K9 := K8.below hb K8.lt
              have R9 := R8.below hb R8.lt
              have B9 := below_next (Nat.le_refl _) B8 hb
              clear W8 D8 P8 K8 R8 B8 hb
              have x9 := (B9.cell (p := ⟨pg, po + k, none⟩) hpg).trans hpx
              have s9 : Below w9.heap.size w9 w9.drew ∧ w9.drew.cell? ⟨w.heap.size, 0, none⟩ = some (.int .i64 o) ∧ w9.drew.cell? ⟨w.heap.size, 1, none⟩ = some (.int .i64 l) ∧ w9.drew.cell? ⟨w.heap.size, 2, none⟩ = some (.int .i64 m) ∧ w9.drew.cell? ⟨w.heap.size, 3, none⟩ = some (.slice A' P.length c') ∧ w9.drew.cell? ⟨w.heap.size, 4, none⟩ = some (.int .i64 b) ∧ w9.drew.cell? ⟨w.heap.size, 5, none⟩ = some (.int .i64 t') ∧ w9.drew.cell? ⟨pg, po + k, none⟩ = some (.int .i64 x) := ⟨(Below.refl _ _).drew, K9.cell 0, K9.cell 1, K9.cell 2, K9.cell 3, K9.cell 4, K9.cell 5, x9⟩
              go_wp2_with fail
              refine wp_region_held_drew (S := (fun W => Below w9.heap.size w9 W ∧ W.cell? ⟨w.heap.size, 0, none⟩ = some (.int .i64 o) ∧ W.cell? ⟨w.heap.size, 1, none⟩ = some (.int .i64 l) ∧ W.cell? ⟨w.heap.size, 2, none⟩ = some (.int .i64 m) ∧ W.cell? ⟨w.heap.size, 3, none⟩ = some (.slice A' P.length c') ∧ W.cell? ⟨w.heap.size, 4, none⟩ = some (.int .i64 b) ∧ W.cell? ⟨w.heap.size, 5, none⟩ = some (.int .i64 t') ∧ W.cell? ⟨pg, po + k, none⟩ = some (.int .i64 x))) (by kernel_rfl) (by first | assumption | exact s9 | exact keep7 (by assumption) (by assumption)) (fun hHeld => ?_)
              refine wpAnyH_take (i := 0) (oi := { dst := some 49, op := Op.load 31 (Operand.tmp 2), type := 31, pos := "l2_words.go:196", after := #[], guard := none }) (v := ?_) rfl (by kernel_rfl) (by kernel_rfl) (by kernel_rfl) (fun _ _ _ h => h) (Or.inl ⟨by rfl, ?_⟩) (by assumption) ?_; rotate_left
              · intro W hW; (try dsimp only at hW); go_simp;  try (with_reducible rfl)
              try simp only [Act.put, List.setIfInBounds_toArray, List.set_cons_zero, List.set_cons_succ]
              refine wpAnyH_take (i := 1) (oi := { dst := some 50, op := Op.move (Operand.tmp 1), type := 38, pos := "l2_words.go:196", after := #[], guard := none }) (v := ?_) rfl (by kernel_rfl) (by kernel_rfl) (by kernel_rfl) (fun _ _ _ h => h) (Or.inl ⟨by rfl, ?_⟩) (by assumption) ?_; rotate_left
              · intro W hW; (try dsimp only at hW); go_simp;  try (with_reducible rfl)
              try simp only [Act.put, List.setIfInBounds_toArray, List.set_cons_zero, List.set_cons_succ]
              refine wpAnyH_take (i := 2) (oi := { dst := some 51, op := Op.move (Operand.tmp 10), type := 3, pos := "l2_words.go:196", after := #[], guard := none }) (v := ?_) rfl (by kernel_rfl) (by kernel_rfl) (by kernel_rfl) (fun _ _ _ h => h) (Or.inl ⟨by rfl, ?_⟩) (by assumption) ?_; rotate_left
              · intro W hW; (try dsimp only at hW); go_simp;  try (with_reducible rfl)
              try simp only [Act.put, List.setIfInBounds_toArray, List.set_cons_zero, List.set_cons_succ]
              refine wpAnyH_take (i := 3) (oi := { dst := some 52, op := Op.indexAddr 38 (Operand.tmp 50) (Operand.tmp 51), type := 0, pos := "l2_words.go:196", after := #[{ on := 1, ground := Ground.data }, { on := 2, ground := Ground.data }], guard := none }) (v := ?_) rfl (by kernel_rfl) (by kernel_rfl) (by kernel_rfl) (fun _ _ _ h => h) (Or.inl ⟨by rfl, ?_⟩) (by assumption) ?_; rotate_left
              · intro W hW; (try dsimp only at hW); go_simp;  try (with_reducible rfl)
              try simp only [Act.put, List.setIfInBounds_toArray, List.set_cons_zero, List.set_cons_succ]
              refine wpAnyH_take (i := 4) (oi := { dst := some 53, op := Op.load 3 (Operand.tmp 52), type := 3, pos := "l2_words.go:196", after := #[{ on := 3, ground := Ground.data }], guard := none }) (v := ?_) rfl (by kernel_rfl) (by kernel_rfl) (by kernel_rfl) (fun _ _ _ h => h) (Or.inl ⟨by rfl, ?_⟩) (by assumption) ?_; rotate_left
              · intro W hW; (try dsimp only at hW); go_simp;  try (with_reducible rfl)
              try simp only [Act.put, List.setIfInBounds_toArray, List.set_cons_zero, List.set_cons_succ]
              refine wpAnyH_ready (rs := [5]) (by kernel_rfl) (by simp) (AllReadyH.cons (i := 5) (o := { dst := some 54, op := Op.call { callee := Callee.value (Operand.func 58), args := #[Operand.tmp 49, Operand.tmp 53], argTypes := #[31, 3] }, type := 4, pos := "l2_words.go:196", after := #[{ on := 0, ground := Ground.data }, { on := 4, ground := Ground.data }], guard := none }) rfl (fun K hK => ?_) AllReadyH.nil)
              go_simp
              refine ((unhide CF) _).mono ?_; rintro e w10 ⟨rfl, hb⟩
              try go_wp2_with fail
              refine hK.out _ _ (by (try dsimp only); first | assumption | exact s9 | exact keep7 (by assumption) (by assumption)) (fun hHeld => ?_)
              clear hK K
              try simp only [Act.put, List.setIfInBounds_toArray, List.set_cons_zero, List.set_cons_succ]
              refine wpAnyH_take (i := 6) (oi := { dst := some 55, op := Op.unOp UnOp.not 4 (Operand.tmp 54), type := 4, pos := "l2_words.go:196", after := #[{ on := 5, ground := Ground.data }], guard := none }) (v := ?_) rfl (by kernel_rfl) (by kernel_rfl) (by kernel_rfl) (fun _ _ _ h => h) (Or.inl ⟨by rfl, ?_⟩) (by assumption) ?_; rotate_left
              · intro W hW; (try dsimp only at hW); go_simp;  try (with_reducible rfl)
              try simp only [Act.put, List.setIfInBounds_toArray, List.set_cons_zero, List.set_cons_succ]
              refine wpAnyH_take (i := 7) (oi := { dst := some 56, op := Op.move (Operand.tmp 55), type := 4, pos := "l2_words.go:196", after := #[{ on := 6, ground := Ground.data }, { on := 5, ground := Ground.chain }], guard := none }) (v := ?_) rfl (by kernel_rfl) (by kernel_rfl) (by kernel_rfl) (fun _ _ _ h => h) (Or.inl ⟨by rfl, ?_⟩) (by assumption) ?_; rotate_left
              · intro W hW; (try dsimp only at hW); go_simp;  try (with_reducible rfl)
              try simp only [Act.put, List.setIfInBounds_toArray, List.set_cons_zero, List.set_cons_succ]
              refine wpAnyH_take (i := 8) (oi := { dst := some 57, op := Op.move (Operand.tmp 9), type := 48, pos := "l2_words.go:196", after := #[{ on := 7, ground := Ground.guard }], guard := some (7, false) }) (v := ?_) rfl (by kernel_rfl) (by kernel_rfl) (by kernel_rfl) (fun _ _ _ h => h) (Or.inl ⟨by rfl, ?_⟩) (by assumption) ?_; rotate_left
              · intro W hW; (try dsimp only at hW); go_simp;  try (with_reducible rfl)
              try simp only [Act.put, List.setIfInBounds_toArray, List.set_cons_zero, List.set_cons_succ]
              refine wpAnyH_take (i := 9) (oi := { dst := some 58, op := Op.call { callee := Callee.builtin Builtin.len, args := #[Operand.tmp 57], argTypes := #[48] }, type := 3, pos := "l2_words.go:196", after := #[{ on := 8, ground := Ground.data }, { on := 7, ground := Ground.guard }], guard := some (7, false) }) (v := ?_) rfl (by kernel_rfl) (by kernel_rfl) (by kernel_rfl) (fun _ _ _ h => h) (Or.inl ⟨by rfl, ?_⟩) (by assumption) ?_; rotate_left
              · intro W hW; (try dsimp only at hW); go_simp;  try (with_reducible rfl)
              try simp only [Act.put, List.setIfInBounds_toArray, List.set_cons_zero, List.set_cons_succ]
              refine wpAnyH_take (i := 10) (oi := { dst := some 59, op := Op.binOp BinOp.gtr 3 (Operand.tmp 58) (Operand.const (Value.int IntKind.i64 2000)) 3, type := 4, pos := "l2_words.go:196", after := #[{ on := 9, ground := Ground.data }, { on := 7, ground := Ground.guard }], guard := some (7, false) }) (v := ?_) rfl (by kernel_rfl) (by kernel_rfl) (by kernel_rfl) (fun _ _ _ h => h) (Or.inl ⟨by rfl, ?_⟩) (by assumption) ?_; rotate_left
              · intro W hW; (try dsimp only at hW); go_simp;  try (with_reducible rfl)
              try simp only [Act.put, List.setIfInBounds_toArray, List.set_cons_zero, List.set_cons_succ]
              refine wpAnyH_take (i := 11) (oi := { dst := some 60, op := Op.pick (Operand.tmp 56) (Operand.const (Value.bool true)) (Operand.tmp 59), type := 4, pos := "l2_words.go:196", after := #[{ on := 7, ground := Ground.data }, { on := 10, ground := Ground.data }], guard := none }) (v := ?_) rfl (by kernel_rfl) (by kernel_rfl) (by kernel_rfl) (fun _ _ _ h => h) (Or.inl ⟨by rfl, ?_⟩) (by assumption) ?_; rotate_left
              · intro W hW; (try dsimp only at hW); go_simp;  try (with_reducible rfl)
              try simp only [Act.put, List.setIfInBounds_toArray, List.set_cons_zero, List.set_cons_succ]
              refine wpAnyH_done (by kernel_rfl) ?_ _
              have hb := hHeld.1
              clear hHeld s9 x9
              have W10 := own_below W9 hb
              have D10 := own_below D9 hb
              have P10 := PK.below P9 hb
              have K10 := K9.below hb K9.lt
              have R10 := R9.below hb R9.lt
              have B10 := below_next (Nat.le_refl _) B9 hb
              clear W9 D9 P9 K9 R9 B9 hb
              have s12 : Below w.heap.size w w10.drew ∧ w10.drew.cell? ⟨w.heap.size, 0, none⟩ = some (.int .i64 o) ∧ w10.drew.cell? ⟨w.heap.size, 1, none⟩ = some (.int .i64 l) ∧ w10.drew.cell? ⟨w.heap.size, 2, none⟩ = some (.int .i64 m) ∧ w10.drew.cell? ⟨w.heap.size, 3, none⟩ = some (.slice A' P.length c') ∧ w10.drew.cell? ⟨w.heap.size, 4, none⟩ = some (.int .i64 b) ∧ w10.drew.cell? ⟨w.heap.size, 5, none⟩ = some (.int .i64 t') ∧ w10.drew.cell? ⟨pg, po + k, none⟩ = some (.int .i64 x) := ⟨B10.drew, K10.cell 0, K10.cell 1, K10.cell 2, K10.cell 3, K10.cell 4, K10.cell 5, (B10.cell (p := ⟨pg, po + k, none⟩) hpg).trans hpx⟩
              go_wp2_with fail
              refine wp_region_held_drew (S := (fun W => Below w.heap.size w W ∧ W.cell? ⟨w.heap.size, 0, none⟩ = some (.int .i64 o) ∧ W.cell? ⟨w.heap.size, 1, none⟩ = some (.int .i64 l) ∧ W.cell? ⟨w.heap.size, 2, none⟩ = some (.int .i64 m) ∧ W.cell? ⟨w.heap.size, 3, none⟩ = some (.slice A' P.length c') ∧ W.cell? ⟨w.heap.size, 4, none⟩ = some (.int .i64 b) ∧ W.cell? ⟨w.heap.size, 5, none⟩ = some (.int .i64 t') ∧ W.cell? ⟨pg, po + k, none⟩ = some (.int .i64 x))) (by kernel_rfl) (by first | assumption | exact s12 | exact keep7 (by assumption) (by assumption)) (fun hHeld => ?_)
              refine wpAnyH_take (i := 0) (oi := { dst := some 63, op := Op.move (Operand.tmp 9), type := 48, pos := "l2_words.go:199", after := #[], guard := none }) (v := ?_) rfl (by kernel_rfl) (by kernel_rfl) (by kernel_rfl) (fun _ _ _ h => h) (Or.inl ⟨by rfl, ?_⟩) (by assumption) ?_; rotate_left
              · intro W hW; (try dsimp only at hW); go_simp;  try (with_reducible rfl)
              try simp only [Act.put, List.setIfInBounds_toArray, List.set_cons_zero, List.set_cons_succ]
              refine wpAnyH_take (i := 1) (oi := { dst := some 64, op := Op.load 31 (Operand.tmp 2), type := 31, pos := "l2_words.go:199", after := #[], guard := none }) (v := ?_) rfl (by kernel_rfl) (by kernel_rfl) (by kernel_rfl) (fun _ _ _ h => h) (Or.inl ⟨by rfl, ?_⟩) (by assumption) ?_; rotate_left
              · intro W hW; (try dsimp only at hW); go_simp;  try (with_reducible rfl)
              try simp only [Act.put, List.setIfInBounds_toArray, List.set_cons_zero, List.set_cons_succ]
              refine wpAnyH_take (i := 2) (oi := { dst := some 65, op := Op.move (Operand.tmp 1), type := 38, pos := "l2_words.go:199", after := #[], guard := none }) (v := ?_) rfl (by kernel_rfl) (by kernel_rfl) (by kernel_rfl) (fun _ _ _ h => h) (Or.inl ⟨by rfl, ?_⟩) (by assumption) ?_; rotate_left
              · intro W hW; (try dsimp only at hW); go_simp;  try (with_reducible rfl)
              try simp only [Act.put, List.setIfInBounds_toArray, List.set_cons_zero, List.set_cons_succ]
              refine wpAnyH_take (i := 3) (oi := { dst := some 66, op := Op.move (Operand.tmp 10), type := 3, pos := "l2_words.go:199", after := #[], guard := none }) (v := ?_) rfl (by kernel_rfl) (by kernel_rfl) (by kernel_rfl) (fun _ _ _ h => h) (Or.inl ⟨by rfl, ?_⟩) (by assumption) ?_; rotate_left
              · intro W hW; (try dsimp only at hW); go_simp;  try (with_reducible rfl)
              try simp only [Act.put, List.setIfInBounds_toArray, List.set_cons_zero, List.set_cons_succ]
              refine wpAnyH_take (i := 4) (oi := { dst := some 67, op := Op.indexAddr 38 (Operand.tmp 65) (Operand.tmp 66), type := 0, pos := "l2_words.go:199", after := #[{ on := 2, ground := Ground.data }, { on := 3, ground := Ground.data }], guard := none }) (v := ?_) rfl (by kernel_rfl) (by kernel_rfl) (by kernel_rfl) (fun _ _ _ h => h) (Or.inl ⟨by rfl, ?_⟩) (by assumption) ?_; rotate_left
              · intro W hW; (try dsimp only at hW); go_simp;  try (with_reducible rfl)
              try simp only [Act.put, List.setIfInBounds_toArray, List.set_cons_zero, List.set_cons_succ]
              refine wpAnyH_take (i := 5) (oi := { dst := some 68, op := Op.load 3 (Operand.tmp 67), type := 3, pos := "l2_words.go:199", after := #[{ on := 4, ground := Ground.data }], guard := none }) (v := ?_) rfl (by kernel_rfl) (by kernel_rfl) (by kernel_rfl) (fun _ _ _ h => h) (Or.inl ⟨by rfl, ?_⟩) (by assumption) ?_; rotate_left
              · intro W hW; (try dsimp only at hW); go_simp;  try (with_reducible rfl)
              try simp only [Act.put, List.setIfInBounds_toArray, List.set_cons_zero, List.set_cons_succ]
              refine wpAnyH_ready (rs := [6]) (by kernel_rfl) (by simp) (AllReadyH.cons (i := 6) (o := { dst := some 69, op := Op.call { callee := Callee.value (Operand.func 90), args := #[Operand.tmp 64, Operand.tmp 68], argTypes := #[31, 3] }, type := 9, pos := "l2_words.go:199", after := #[{ on := 1, ground := Ground.data }, { on := 5, ground := Ground.data }], guard := none }) rfl (fun K hK => ?_) AllReadyH.nil)
              go_simp
              refine ((unhide CT) _ (PK.pr (PK.drew P10) B10.drew)).mono ?_; rintro e wa ⟨rfl, hb⟩
              have W11 := own_below (own_drew W10) hb
              have D11 := own_below (own_drew D10) hb
              have P11 := PK.below (PK.drew P10) hb
              have K11 := Blk.below (Blk.drew K10) hb K10.lt
              have R11 := Blk.below (Blk.drew R10) hb R10.lt
              have B11 := below_next (Nat.le_refl _) B10.drew hb
              try go_wp2_with fail
              refine hK.out _ _ (by (try dsimp only); first | exact keep7 hb hHeld) (fun hHeld => ?_)
              clear hK K
              try simp only [Act.put, List.setIfInBounds_toArray, List.set_cons_zero, List.set_cons_succ]
              refine wpAnyH_ready (rs := [7]) (by kernel_rfl) (by simp) (AllReadyH.cons (i := 7) (o := { dst := some 70, op := Op.call { callee := Callee.builtin Builtin.append, args := #[Operand.tmp 63, Operand.tmp 69], argTypes := #[48, 9] }, type := 48, pos := "l2_words.go:199", after := #[{ on := 0, ground := Ground.data }, { on := 6, ground := Ground.data }, { on := 6, ground := Ground.chain }], guard := none }) rfl (fun K hK => ?_) AllReadyH.nil)
              refine wp_append_str _ _ _ _ _ rfl w.heap.size 5 j0 Try.underlying48 Try.underlying9 hj0 hy0 hy1 hy3 (.slice Ad ds.length cd) ds.length (bvals ds) (by first | rfl | simp [Act.eval]) D11 u (by first | rfl | simp [Act.eval]) (by simp only [maxLen]; omega) (by omega) B11.size ?_
              intro v3 w12 hown12 hg12
              have D12 := own_join hown12
              have W12 := own_other W11 D11 hg12 (by decide)
              have P12 := PK.other P11 D11 hg12 (by decide)
              have K12 := blk_other K11 D11 hg12 (by decide)
              have R12 := blk_other R11 D11 hg12 (by decide)
              have B12 := B11.grown hg12 B11.size (fun g hgg => (D11.lt g hgg).1)
              obtain ⟨Ad2, cd2, rfl⟩ := own_shapeN D12
              have HKp : Below w.heap.size w w12 ∧ w12.cell? ⟨w.heap.size, 0, none⟩ = some (.int .i64 o) ∧ w12.cell? ⟨w.heap.size, 1, none⟩ = some (.int .i64 l) ∧ w12.cell? ⟨w.heap.size, 2, none⟩ = some (.int .i64 m) ∧ w12.cell? ⟨w.heap.size, 3, none⟩ = some (.slice A' P.length c') ∧ w12.cell? ⟨w.heap.size, 4, none⟩ = some (.int .i64 b) ∧ w12.cell? ⟨w.heap.size, 5, none⟩ = some (.int .i64 t') ∧ w12.cell? ⟨pg, po + k, none⟩ = some (.int .i64 x) := ⟨B12, K12.cell 0, K12.cell 1, K12.cell 2, K12.cell 3, K12.cell 4, K12.cell 5, (B12.cell (p := ⟨pg, po + k, none⟩) hpg).trans hpx⟩
              clear hown12 hg12 hHeld W11 W10 D11 D10 P11 P10 K11 K10 R11 R10 B11 B10
              refine hK.out _ _ (by (try dsimp only); first | exact HKp) (fun hHeld => ?_)
              clear hK K
              try simp only [Act.put, List.setIfInBounds_toArray, List.set_cons_zero, List.set_cons_succ]
              refine wpAnyH_take (i := 8) (oi := { dst := some 9, op := Op.assign (Operand.tmp 70), type := 48, pos := "l2_words.go:199", after := #[{ on := 7, ground := Ground.data }, { on := 7, ground := Ground.chain }, { on := 0, ground := Ground.phase }, { on := 1, ground := Ground.phase }, { on := 2, ground := Ground.phase }, { on := 3, ground := Ground.phase }, { on := 4, ground := Ground.phase }, { on := 5, ground := Ground.phase }, { on := 6, ground := Ground.phase }, { on := 7, ground := Ground.phase }], guard := none }) (v := ?_) rfl (by kernel_rfl) (by kernel_rfl) (by kernel_rfl) (fun _ _ _ h => h) (Or.inl ⟨by rfl, ?_⟩) (by assumption) ?_; rotate_left
              · intro W hW; (try dsimp only at hW); go_simp;  try (with_reducible rfl)
              try simp only [Act.put, List.setIfInBounds_toArray, List.set_cons_zero, List.set_cons_succ]
              refine wpAnyH_done (by kernel_rfl) ?_ _
              clear hHeld s12 HKp
              have x13 := (B12.cell (p := ⟨pg, po + k, none⟩) hpg).trans hpx
              have s13 : Below w12.heap.size w12 w12.drew ∧ w12.drew.cell? ⟨w.heap.size, 0, none⟩ = some (.int .i64 o) ∧ w12.drew.cell? ⟨w.heap.size, 1, none⟩ = some (.int .i64 l) ∧ w12.drew.cell? ⟨w.heap.size, 2, none⟩ = some (.int .i64 m) ∧ w12.drew.cell? ⟨w.heap.size, 3, none⟩ = some (.slice A' P.length c') ∧ w12.drew.cell? ⟨w.heap.size, 4, none⟩ = some (.int .i64 b) ∧ w12.drew.cell? ⟨w.heap.size, 5, none⟩ = some (.int .i64 t') ∧ w12.drew.cell? ⟨pg, po + k, none⟩ = some (.int .i64 x) := ⟨(Below.refl _ _).drew, K12.cell 0, K12.cell 1, K12.cell 2, K12.cell 3, K12.cell 4, K12.cell 5, x13⟩
              go_wp2_with fail
              refine wp_region_final_drew (S := (fun W => Below w12.heap.size w12 W ∧ W.cell? ⟨w.heap.size, 0, none⟩ = some (.int .i64 o) ∧ W.cell? ⟨w.heap.size, 1, none⟩ = some (.int .i64 l) ∧ W.cell? ⟨w.heap.size, 2, none⟩ = some (.int .i64 m) ∧ W.cell? ⟨w.heap.size, 3, none⟩ = some (.slice A' P.length c') ∧ W.cell? ⟨w.heap.size, 4, none⟩ = some (.int .i64 b) ∧ W.cell? ⟨w.heap.size, 5, none⟩ = some (.int .i64 t') ∧ W.cell? ⟨pg, po + k, none⟩ = some (.int .i64 x))) 6 (by kernel_rfl) (by first | assumption | exact s13 | exact keep7 (by assumption) (by assumption)) (fun hHeld => ?_)
              refine wpAnyF_take (i := 0) (oi := { dst := some 71, op := Op.load 31 (Operand.tmp 2), type := 31, pos := "l2_words.go:201", after := #[], guard := none }) (v := ?_) rfl (by kernel_rfl) (by kernel_rfl) (by kernel_rfl) (by kernel_rfl) (fun _ _ _ h => h) (Or.inl ⟨by rfl, ?_⟩) (by assumption) ?_; rotate_left
              · intro W hW; (try dsimp only at hW); go_simp;  try (with_reducible rfl)
              try simp only [Act.put, List.setIfInBounds_toArray, List.set_cons_zero, List.set_cons_succ]
              refine wpAnyF_take (i := 1) (oi := { dst := some 72, op := Op.move (Operand.tmp 1), type := 38, pos := "l2_words.go:201", after := #[], guard := none }) (v := ?_) rfl (by kernel_rfl) (by kernel_rfl) (by kernel_rfl) (by kernel_rfl) (fun _ _ _ h => h) (Or.inl ⟨by rfl, ?_⟩) (by assumption) ?_; rotate_left
              · intro W hW; (try dsimp only at hW); go_simp;  try (with_reducible rfl)
              try simp only [Act.put, List.setIfInBounds_toArray, List.set_cons_zero, List.set_cons_succ]
              refine wpAnyF_take (i := 2) (oi := { dst := some 73, op := Op.move (Operand.tmp 10), type := 3, pos := "l2_words.go:201", after := #[], guard := none }) (v := ?_) rfl (by kernel_rfl) (by kernel_rfl) (by kernel_rfl) (by kernel_rfl) (fun _ _ _ h => h) (Or.inl ⟨by rfl, ?_⟩) (by assumption) ?_; rotate_left
              · intro W hW; (try dsimp only at hW); go_simp;  try (with_reducible rfl)
              try simp only [Act.put, List.setIfInBounds_toArray, List.set_cons_zero, List.set_cons_succ]
              refine wpAnyF_take (i := 3) (oi := { dst := some 74, op := Op.indexAddr 38 (Operand.tmp 72) (Operand.tmp 73), type := 0, pos := "l2_words.go:201", after := #[{ on := 1, ground := Ground.data }, { on := 2, ground := Ground.data }], guard := none }) (v := ?_) rfl (by kernel_rfl) (by kernel_rfl) (by kernel_rfl) (by kernel_rfl) (fun _ _ _ h => h) (Or.inl ⟨by rfl, ?_⟩) (by assumption) ?_; rotate_left
              · intro W hW; (try dsimp only at hW); go_simp;  try (with_reducible rfl)
              try simp only [Act.put, List.setIfInBounds_toArray, List.set_cons_zero, List.set_cons_succ]
              refine wpAnyF_take (i := 4) (oi := { dst := some 75, op := Op.load 3 (Operand.tmp 74), type := 3, pos := "l2_words.go:201", after := #[{ on := 3, ground := Ground.data }], guard := none }) (v := ?_) rfl (by kernel_rfl) (by kernel_rfl) (by kernel_rfl) (by kernel_rfl) (fun _ _ _ h => h) (Or.inl ⟨by rfl, ?_⟩) (by assumption) ?_; rotate_left
              · intro W hW; (try dsimp only at hW); go_simp;  try (with_reducible rfl)
              try simp only [Act.put, List.setIfInBounds_toArray, List.set_cons_zero, List.set_cons_succ]
              refine wpAnyF_ready (rs := [5]) (by kernel_rfl) (by simp) (AllReadyF.cons (i := 5) (o := { dst := some 76, op := Op.call { callee := Callee.value (Operand.func 59), args := #[Operand.tmp 71, Operand.tmp 75], argTypes := #[31, 3] }, type := 31, pos := "l2_words.go:201", after := #[{ on := 0, ground := Ground.data }, { on := 4, ground := Ground.data }], guard := none }) rfl (fun K hK => ?_) AllReadyF.nil)
              go_simp
              refine ((unhide CS) _ (PK.pr (PK.drew P12) B12.drew)).mono ?_; rintro e wb ⟨A4, c4, rfl, O4, hc4, hb⟩
              try go_wp2_with fail
              refine hK.out _ _ (by (try dsimp only); first | assumption | exact s13 | exact keep7 (by assumption) (by assumption)) (fun hHeld => ?_)
              clear hK K
              try simp only [Act.put, List.setIfInBounds_toArray, List.set_cons_zero, List.set_cons_succ]
              refine wpAnyF_ready (rs := [6]) (by kernel_rfl) (by simp) (AllReadyF.last (o := { dst := none, op := Op.store 31 (Operand.tmp 2) (Operand.tmp 76), type := 0, pos := "l2_words.go:201", after := #[{ on := 5, ground := Ground.data }, { on := 5, ground := Ground.chain }, { on := 0, ground := Ground.phase }, { on := 1, ground := Ground.phase }, { on := 2, ground := Ground.phase }, { on := 3, ground := Ground.phase }, { on := 4, ground := Ground.phase }, { on := 5, ground := Ground.phase }], guard := none }) rfl (fun K hK => ?_))
              have W14 := own_below (own_drew W12) hb
              have D14 := own_below (own_drew D12) hb
              have O4 := O4.mono (B12.drew.size)
              have K14 := Blk.below (Blk.drew K12) hb K12.lt
              have R14 := Blk.below (Blk.drew R12) hb R12.lt
              have B14 := below_next (Nat.le_refl _) B12.drew hb
              have a0 : wb.cell? ⟨w.heap.size, 0, none⟩ = some (.int .i64 o) := K14.cell 0
              have a1 : wb.cell? ⟨w.heap.size, 1, none⟩ = some (.int .i64 l) := K14.cell 1
              have a2 : wb.cell? ⟨w.heap.size, 2, none⟩ = some (.int .i64 m) := K14.cell 2
              have a3 : wb.cell? ⟨w.heap.size, 3, none⟩ = some (.slice A' P.length c') := K14.cell 3
              have a4 : wb.cell? ⟨w.heap.size, 4, none⟩ = some (.int .i64 b) := K14.cell 4
              have a5 : wb.cell? ⟨w.heap.size, 5, none⟩ = some (.int .i64 t') := K14.cell 5
              have fa0 := K14.frozen 0
              have fa1 := K14.frozen 1
              have fa2 := K14.frozen 2
              have fa3 := K14.frozen 3
              have fa4 := K14.frozen 4
              have fa5 := K14.frozen 5
              have KS := blk6_set K14 (.int .i64 o) (.int .i64 l) (.int .i64 m) (.slice A4 P2.length c4) (.int .i64 b) (.int .i64 t2)
              have HG := hide (only6 wb w.heap.size (.int .i64 o) (.int .i64 l) (.int .i64 m) (.slice A4 P2.length c4) (.int .i64 b) (.int .i64 t2))
              have WS := W14.kept HG.out (.inr (own_blk_ne W14 K14 (by decide)))
              have DS := D14.kept HG.out (.inr (own_blk_ne D14 K14 (by decide)))
              have PS : PK w ((((((wb.setCell ⟨w.heap.size, 0, none⟩ (.int .i64 o)).setCell ⟨w.heap.size, 1, none⟩ (.int .i64 l)).setCell ⟨w.heap.size, 2, none⟩ (.int .i64 m)).setCell ⟨w.heap.size, 3, none⟩ (.slice A4 P2.length c4)).setCell ⟨w.heap.size, 4, none⟩ (.int .i64 b)).setCell ⟨w.heap.size, 5, none⟩ (.int .i64 t2)) A4 P2 := .inr (O4.only HG.out K14 (by decide))
              have RS := R14.far6 (g := w.heap.size) (by omega) (.int .i64 o) (.int .i64 l) (.int .i64 m) (.slice A4 P2.length c4) (.int .i64 b) (.int .i64 t2)
              have BS := below_set6 (g := w.heap.size) B14 (Nat.le_refl _) (.int .i64 o) (.int .i64 l) (.int .i64 m) (.slice A4 P2.length c4) (.int .i64 b) (.int .i64 t2)
              clear W14 D14 R14 B14 O4 HG hHeld hb s13 x13 W12 D12 P12 K12 R12 B12
              go_simp
              clear a0 a1 a2 a3 a4 a5 fa0 fa1 fa2 fa3 fa4 fa5 K14
              refine hK.out _ _ ?_
              clear hK K
              try simp only [Act.put, List.setIfInBounds_toArray, List.set_cons_zero, List.set_cons_succ]
              refine wpAnyF_done (by kernel_rfl) ?_ _
              go_wp2_with fail
              go_roundw
              case rel => exact ⟨k + 1, ws ++ [V], (ds ++ u.data.toList), P2, t2, Aw2, Ad2, A4, cw2, cd2, c4, by omega, by go_num, by rw [hw1], by rw [hdn], hide (by rw [hw1, hwl.out]), by rw [hdn]; omega, by rw [hw1]; exact own_ints WS, by rw [hdn]; rw [hdn] at DS; exact DS, PS, hc4, KS, RS, BS, HK2, HN, HM2⟩
              case measure => simp [intOf]; omega
            · skip
              have HN := hide (show Sx.wk l m b xs ps t 0 = Sx.pick false (ws ++ [V]) [] by rw [Sx.pick_no]; exact HM.out (by omega))
              have ee : (x == Sx.two l + 1) = false := by rw [beq_eq_false_iff_ne]; exact hx1
              have ec : (x != Sx.two l) = true := by rw [bne_iff_ne]; exact hx2
              have CF := hide (fun wx => by have := spec_l2Follows o l m A' c' b t' x P wx n0 n1 (by omega) n3 n4; rwa [hc] at this)
              have hdI : (2000 : Int) < (ds.length : Int) := by omega
              clear hx1 hx2 HR HM HK hV hc
              go_wp2_with fail
              refine ((unhide CW) _).mono ?_; rintro e w6 ⟨rfl, hb6⟩
              have W6 := own_below W5 hb6
              have D6 := own_below D5 hb6
              have P6 := PK.below P5 hb6
              have K6 := K5.below hb6 K5.lt
              have R6 := R5.below hb6 R5.lt
              have B6 := below_next (Nat.le_refl _) B5 hb6
              clear W5 D5 P5 K5 R5 B5 hb6 CW a0 a1 a2 a3 a4 a5
              go_wp2_with (at_builtin; refine wpList_append_any _ rfl _ _ _ rfl w.heap.size 3 i0 (.int .i64 0) 1 8 Try.underlying38 hi0 hz0 hz1 hz3 (by rfl) (by decide) (.slice Aw ws.length cw) ws.length (ivals ws) rfl (W6.alloc _) _ _ 1 1 [.int .i64 V] rfl (reads_one _ _ _) (by simp [Value.oneCell']) (by simp only [maxLen]; omega) (by omega) (by have := B6.size; simp; omega) ?_; intro v' w7 hown9 hg9 _; have W8 := W6.alloc (.cells #[.int .i64 V] 3); have D7 := own_other (D6.alloc (.cells #[.int .i64 V] 3)) W8 hg9 (by decide); have P7 := PK.other (P6.alloc (.cells #[.int .i64 V] 3)) W8 hg9 (by decide); have K7 := blk_other (K6.alloc (.cells #[.int .i64 V] 3)) W8 hg9 (by decide); have R7 := blk_other (R6.alloc (.cells #[.int .i64 V] 3)) W8 hg9 (by decide); have B7 := (B6.alloc B6.size (.cells #[.int .i64 V] 3)).grown hg9 (by have := B6.size; simp; omega) (fun g hgg => (W8.lt g hgg).1); have W7 := own_nodup hown9; obtain ⟨Aw2, cw2, rfl⟩ := own_shapeN W7; clear W8 hown9 hg9; clear W6 D6 P6 K6 R6 B6)
              have x7 := (B7.cell (p := ⟨pg, po + k, none⟩) hpg).trans hpx
              have s7 : Below w7.heap.size w7 w7.drew ∧ w7.drew.cell? ⟨w.heap.size, 0, none⟩ = some (.int .i64 o) ∧ w7.drew.cell? ⟨w.heap.size, 1, none⟩ = some (.int .i64 l) ∧ w7.drew.cell? ⟨w.heap.size, 2, none⟩ = some (.int .i64 m) ∧ w7.drew.cell? ⟨w.heap.size, 3, none⟩ = some (.slice A' P.length c') ∧ w7.drew.cell? ⟨w.heap.size, 4, none⟩ = some (.int .i64 b) ∧ w7.drew.cell? ⟨w.heap.size, 5, none⟩ = some (.int .i64 t') ∧ w7.drew.cell? ⟨pg, po + k, none⟩ = some (.int .i64 x) := ⟨(Below.refl _ _).drew, K7.cell 0, K7.cell 1, K7.cell 2, K7.cell 3, K7.cell 4, K7.cell 5, x7⟩
              refine wp_region_held_drew (S := (fun W => Below w7.heap.size w7 W ∧ W.cell? ⟨w.heap.size, 0, none⟩ = some (.int .i64 o) ∧ W.cell? ⟨w.heap.size, 1, none⟩ = some (.int .i64 l) ∧ W.cell? ⟨w.heap.size, 2, none⟩ = some (.int .i64 m) ∧ W.cell? ⟨w.heap.size, 3, none⟩ = some (.slice A' P.length c') ∧ W.cell? ⟨w.heap.size, 4, none⟩ = some (.int .i64 b) ∧ W.cell? ⟨w.heap.size, 5, none⟩ = some (.int .i64 t') ∧ W.cell? ⟨pg, po + k, none⟩ = some (.int .i64 x))) (by kernel_rfl) (by first | assumption | exact s7 | exact keep7 (by assumption) (by assumption)) (fun hHeld => ?_)
              refine wpAnyH_take (i := 0) (oi := { dst := some 24, op := Op.move (Operand.tmp 1), type := 38, pos := "l2_words.go:192", after := #[], guard := none }) (v := ?_) rfl (by kernel_rfl) (by kernel_rfl) (by kernel_rfl) (fun _ _ _ h => h) (Or.inl ⟨by rfl, ?_⟩) (by assumption) ?_; rotate_left
              · intro W hW; (try dsimp only at hW); go_simp;  try (with_reducible rfl)
              try simp only [Act.put, List.setIfInBounds_toArray, List.set_cons_zero, List.set_cons_succ]
              refine wpAnyH_take (i := 1) (oi := { dst := some 25, op := Op.move (Operand.tmp 10), type := 3, pos := "l2_words.go:192", after := #[], guard := none }) (v := ?_) rfl (by kernel_rfl) (by kernel_rfl) (by kernel_rfl) (fun _ _ _ h => h) (Or.inl ⟨by rfl, ?_⟩) (by assumption) ?_; rotate_left
              · intro W hW; (try dsimp only at hW); go_simp;  try (with_reducible rfl)
              try simp only [Act.put, List.setIfInBounds_toArray, List.set_cons_zero, List.set_cons_succ]
              refine wpAnyH_take (i := 2) (oi := { dst := some 26, op := Op.indexAddr 38 (Operand.tmp 24) (Operand.tmp 25), type := 0, pos := "l2_words.go:192", after := #[{ on := 0, ground := Ground.data }, { on := 1, ground := Ground.data }], guard := none }) (v := ?_) rfl (by kernel_rfl) (by kernel_rfl) (by kernel_rfl) (fun _ _ _ h => h) (Or.inl ⟨by rfl, ?_⟩) (by assumption) ?_; rotate_left
              · intro W hW; (try dsimp only at hW); go_simp;  try (with_reducible rfl)
              try simp only [Act.put, List.setIfInBounds_toArray, List.set_cons_zero, List.set_cons_succ]
              refine wpAnyH_take (i := 3) (oi := { dst := some 27, op := Op.load 3 (Operand.tmp 26), type := 3, pos := "l2_words.go:192", after := #[{ on := 2, ground := Ground.data }], guard := none }) (v := ?_) rfl (by kernel_rfl) (by kernel_rfl) (by kernel_rfl) (fun _ _ _ h => h) (Or.inl ⟨by rfl, ?_⟩) (by assumption) ?_; rotate_left
              · intro W hW; (try dsimp only at hW); go_simp;  try (with_reducible rfl)
              try simp only [Act.put, List.setIfInBounds_toArray, List.set_cons_zero, List.set_cons_succ]
              refine wpAnyH_take (i := 4) (oi := { dst := some 28, op := Op.fieldAddr 31 (Operand.tmp 2) 0, type := 0, pos := "l2_words.go:192", after := #[], guard := none }) (v := ?_) rfl (by kernel_rfl) (by kernel_rfl) (by kernel_rfl) (fun _ _ _ h => h) (Or.inl ⟨by rfl, ?_⟩) (by assumption) ?_; rotate_left
              · intro W hW; (try dsimp only at hW); go_simp;  try (with_reducible rfl)
              try simp only [Act.put, List.setIfInBounds_toArray, List.set_cons_zero, List.set_cons_succ]
              refine wpAnyH_take (i := 5) (oi := { dst := some 29, op := Op.load 28 (Operand.tmp 28), type := 28, pos := "l2_words.go:192", after := #[{ on := 4, ground := Ground.data }], guard := none }) (v := ?_) rfl (by kernel_rfl) (by kernel_rfl) (by kernel_rfl) (fun _ _ _ h => h) (Or.inl ⟨by rfl, ?_⟩) (by assumption) ?_; rotate_left
              · intro W hW; (try dsimp only at hW); go_simp;  try (with_reducible rfl)
              try simp only [Act.put, List.setIfInBounds_toArray, List.set_cons_zero, List.set_cons_succ]
              refine wpAnyH_ready (rs := [6]) (by kernel_rfl) (by simp) (AllReadyH.cons (i := 6) (o := { dst := some 30, op := Op.call { callee := Callee.value (Operand.func 87), args := #[Operand.tmp 29], argTypes := #[28] }, type := 3, pos := "l2_words.go:192", after := #[{ on := 5, ground := Ground.data }], guard := none }) rfl (fun K hK => ?_) AllReadyH.nil)
              go_simp
              refine ((unhide CE) _).mono ?_; rintro e w8 ⟨rfl, hb⟩
              try go_wp2_with fail
              refine hK.out _ _ (by (try dsimp only); first | assumption | exact s7 | exact keep7 (by assumption) (by assumption)) (fun hHeld => ?_)
              clear hK K
              try simp only [Act.put, List.setIfInBounds_toArray, List.set_cons_zero, List.set_cons_succ]
              refine wpAnyH_take (i := 7) (oi := { dst := some 31, op := Op.binOp BinOp.eql 3 (Operand.tmp 27) (Operand.tmp 30) 3, type := 4, pos := "l2_words.go:192", after := #[{ on := 3, ground := Ground.data }, { on := 6, ground := Ground.data }], guard := none }) (v := ?_) rfl (by kernel_rfl) (by kernel_rfl) (by kernel_rfl) (fun _ _ _ h => h) (Or.inl ⟨by rfl, ?_⟩) (by assumption) ?_; rotate_left
              · intro W hW; (try dsimp only at hW); go_simp;  try (with_reducible rfl)
              try simp only [Act.put, List.setIfInBounds_toArray, List.set_cons_zero, List.set_cons_succ]
              refine wpAnyH_done (by kernel_rfl) ?_ _
              have hb := hHeld.1
              clear hHeld s7 x7
              have W8 := own_below W7 hb
              have D8 := own_below D7 hb
              have P8 := PK.below P7 hb
              have K8 := K7.below hb K7.lt
              have R8 := R7.below hb R7.lt
              have B8 := below_next (Nat.le_refl _) B7 hb
              clear W7 D7 P7 K7 R7 B7 hb
              have x8 := (B8.cell (p := ⟨pg, po + k, none⟩) hpg).trans hpx
              have s8 : Below w8.heap.size w8 w8.drew ∧ w8.drew.cell? ⟨w.heap.size, 0, none⟩ = some (.int .i64 o) ∧ w8.drew.cell? ⟨w.heap.size, 1, none⟩ = some (.int .i64 l) ∧ w8.drew.cell? ⟨w.heap.size, 2, none⟩ = some (.int .i64 m) ∧ w8.drew.cell? ⟨w.heap.size, 3, none⟩ = some (.slice A' P.length c') ∧ w8.drew.cell? ⟨w.heap.size, 4, none⟩ = some (.int .i64 b) ∧ w8.drew.cell? ⟨w.heap.size, 5, none⟩ = some (.int .i64 t') ∧ w8.drew.cell? ⟨pg, po + k, none⟩ = some (.int .i64 x) := ⟨(Below.refl _ _).drew, K8.cell 0, K8.cell 1, K8.cell 2, K8.cell 3, K8.cell 4, K8.cell 5, x8⟩
              go_wp2_with fail
              refine wp_region_held_drew (S := (fun W => Below w8.heap.size w8 W ∧ W.cell? ⟨w.heap.size, 0, none⟩ = some (.int .i64 o) ∧ W.cell? ⟨w.heap.size, 1, none⟩ = some (.int .i64 l) ∧ W.cell? ⟨w.heap.size, 2, none⟩ = some (.int .i64 m) ∧ W.cell? ⟨w.heap.size, 3, none⟩ = some (.slice A' P.length c') ∧ W.cell? ⟨w.heap.size, 4, none⟩ = some (.int .i64 b) ∧ W.cell? ⟨w.heap.size, 5, none⟩ = some (.int .i64 t') ∧ W.cell? ⟨pg, po + k, none⟩ = some (.int .i64 x))) (by kernel_rfl) (by first | assumption | exact s8 | exact keep7 (by assumption) (by assumption)) (fun hHeld => ?_)
              refine wpAnyH_take (i := 0) (oi := { dst := some 41, op := Op.move (Operand.tmp 1), type := 38, pos := "l2_words.go:195", after := #[], guard := none }) (v := ?_) rfl (by kernel_rfl) (by kernel_rfl) (by kernel_rfl) (fun _ _ _ h => h) (Or.inl ⟨by rfl, ?_⟩) (by assumption) ?_; rotate_left
              · intro W hW; (try dsimp only at hW); go_simp;  try (with_reducible rfl)
              try simp only [Act.put, List.setIfInBounds_toArray, List.set_cons_zero, List.set_cons_succ]
              refine wpAnyH_take (i := 1) (oi := { dst := some 42, op := Op.move (Operand.tmp 10), type := 3, pos := "l2_words.go:195", after := #[], guard := none }) (v := ?_) rfl (by kernel_rfl) (by kernel_rfl) (by kernel_rfl) (fun _ _ _ h => h) (Or.inl ⟨by rfl, ?_⟩) (by assumption) ?_; rotate_left
              · intro W hW; (try dsimp only at hW); go_simp;  try (with_reducible rfl)
              try simp only [Act.put, List.setIfInBounds_toArray, List.set_cons_zero, List.set_cons_succ]
              refine wpAnyH_take (i := 2) (oi := { dst := some 43, op := Op.indexAddr 38 (Operand.tmp 41) (Operand.tmp 42), type := 0, pos := "l2_words.go:195", after := #[{ on := 0, ground := Ground.data }, { on := 1, ground := Ground.data }], guard := none }) (v := ?_) rfl (by kernel_rfl) (by kernel_rfl) (by kernel_rfl) (fun _ _ _ h => h) (Or.inl ⟨by rfl, ?_⟩) (by assumption) ?_; rotate_left
              · intro W hW; (try dsimp only at hW); go_simp;  try (with_reducible rfl)
              try simp only [Act.put, List.setIfInBounds_toArray, List.set_cons_zero, List.set_cons_succ]
              refine wpAnyH_take (i := 3) (oi := { dst := some 44, op := Op.load 3 (Operand.tmp 43), type := 3, pos := "l2_words.go:195", after := #[{ on := 2, ground := Ground.data }], guard := none }) (v := ?_) rfl (by kernel_rfl) (by kernel_rfl) (by kernel_rfl) (fun _ _ _ h => h) (Or.inl ⟨by rfl, ?_⟩) (by assumption) ?_; rotate_left
              · intro W hW; (try dsimp only at hW); go_simp;  try (with_reducible rfl)
              try simp only [Act.put, List.setIfInBounds_toArray, List.set_cons_zero, List.set_cons_succ]
              refine wpAnyH_take (i := 4) (oi := { dst := some 45, op := Op.fieldAddr 31 (Operand.tmp 2) 0, type := 0, pos := "l2_words.go:195", after := #[], guard := none }) (v := ?_) rfl (by kernel_rfl) (by kernel_rfl) (by kernel_rfl) (fun _ _ _ h => h) (Or.inl ⟨by rfl, ?_⟩) (by assumption) ?_; rotate_left
              · intro W hW; (try dsimp only at hW); go_simp;  try (with_reducible rfl)
              try simp only [Act.put, List.setIfInBounds_toArray, List.set_cons_zero, List.set_cons_succ]
              refine wpAnyH_take (i := 5) (oi := { dst := some 46, op := Op.load 28 (Operand.tmp 45), type := 28, pos := "l2_words.go:195", after := #[{ on := 4, ground := Ground.data }], guard := none }) (v := ?_) rfl (by kernel_rfl) (by kernel_rfl) (by kernel_rfl) (fun _ _ _ h => h) (Or.inl ⟨by rfl, ?_⟩) (by assumption) ?_; rotate_left
              · intro W hW; (try dsimp only at hW); go_simp;  try (with_reducible rfl)
              try simp only [Act.put, List.setIfInBounds_toArray, List.set_cons_zero, List.set_cons_succ]
              refine wpAnyH_ready (rs := [6]) (by kernel_rfl) (by simp) (AllReadyH.cons (i := 6) (o := { dst := some 47, op := Op.call { callee := Callee.value (Operand.func 57), args := #[Operand.tmp 46], argTypes := #[28] }, type := 3, pos := "l2_words.go:195", after := #[{ on := 5, ground := Ground.data }], guard := none }) rfl (fun K hK => ?_) AllReadyH.nil)
              go_simp
              refine ((unhide CC) _).mono ?_; rintro e w9 ⟨rfl, hb⟩
              try go_wp2_with fail
              refine hK.out _ _ (by (try dsimp only); first | assumption | exact s8 | exact keep7 (by assumption) (by assumption)) (fun hHeld => ?_)
              clear hK K
              try simp only [Act.put, List.setIfInBounds_toArray, List.set_cons_zero, List.set_cons_succ]
              refine wpAnyH_take (i := 7) (oi := { dst := some 48, op := Op.binOp BinOp.neq 3 (Operand.tmp 44) (Operand.tmp 47) 3, type := 4, pos := "l2_words.go:195", after := #[{ on := 3, ground := Ground.data }, { on := 6, ground := Ground.data }], guard := none }) (v := ?_) rfl (by kernel_rfl) (by kernel_rfl) (by kernel_rfl) (fun _ _ _ h => h) (Or.inl ⟨by rfl, ?_⟩) (by assumption) ?_; rotate_left
              · intro W hW; (try dsimp only at hW); go_simp;  try (with_reducible rfl)
              try simp only [Act.put, List.setIfInBounds_toArray, List.set_cons_zero, List.set_cons_succ]
              refine wpAnyH_done (by kernel_rfl) ?_ _
              have hb := hHeld.1
              clear hHeld s8 x8
              have W9 := own_below W8 hb
              have D9 := own_below D8 hb
              have P9 := PK.below P8 hb
              have K9 := K8.below hb K8.lt
              have R9 := R8.below hb R8.lt
              have B9 := below_next (Nat.le_refl _) B8 hb
              clear W8 D8 P8 K8 R8 B8 hb
              have x9 := (B9.cell (p := ⟨pg, po + k, none⟩) hpg).trans hpx
              have s9 : Below w9.heap.size w9 w9.drew ∧ w9.drew.cell? ⟨w.heap.size, 0, none⟩ = some (.int .i64 o) ∧ w9.drew.cell? ⟨w.heap.size, 1, none⟩ = some (.int .i64 l) ∧ w9.drew.cell? ⟨w.heap.size, 2, none⟩ = some (.int .i64 m) ∧ w9.drew.cell? ⟨w.heap.size, 3, none⟩ = some (.slice A' P.length c') ∧ w9.drew.cell? ⟨w.heap.size, 4, none⟩ = some (.int .i64 b) ∧ w9.drew.cell? ⟨w.heap.size, 5, none⟩ = some (.int .i64 t') ∧ w9.drew.cell? ⟨pg, po + k, none⟩ = some (.int .i64 x) := ⟨(Below.refl _ _).drew, K9.cell 0, K9.cell 1, K9.cell 2, K9.cell 3, K9.cell 4, K9.cell 5, x9⟩
              go_wp2_with fail
              refine wp_region_held_drew (S := (fun W => Below w9.heap.size w9 W ∧ W.cell? ⟨w.heap.size, 0, none⟩ = some (.int .i64 o) ∧ W.cell? ⟨w.heap.size, 1, none⟩ = some (.int .i64 l) ∧ W.cell? ⟨w.heap.size, 2, none⟩ = some (.int .i64 m) ∧ W.cell? ⟨w.heap.size, 3, none⟩ = some (.slice A' P.length c') ∧ W.cell? ⟨w.heap.size, 4, none⟩ = some (.int .i64 b) ∧ W.cell? ⟨w.heap.size, 5, none⟩ = some (.int .i64 t') ∧ W.cell? ⟨pg, po + k, none⟩ = some (.int .i64 x))) (by kernel_rfl) (by first | assumption | exact s9 | exact keep7 (by assumption) (by assumption)) (fun hHeld => ?_)
              refine wpAnyH_take (i := 0) (oi := { dst := some 49, op := Op.load 31 (Operand.tmp 2), type := 31, pos := "l2_words.go:196", after := #[], guard := none }) (v := ?_) rfl (by kernel_rfl) (by kernel_rfl) (by kernel_rfl) (fun _ _ _ h => h) (Or.inl ⟨by rfl, ?_⟩) (by assumption) ?_; rotate_left
              · intro W hW; (try dsimp only at hW); go_simp;  try (with_reducible rfl)
              try simp only [Act.put, List.setIfInBounds_toArray, List.set_cons_zero, List.set_cons_succ]
              refine wpAnyH_take (i := 1) (oi := { dst := some 50, op := Op.move (Operand.tmp 1), type := 38, pos := "l2_words.go:196", after := #[], guard := none }) (v := ?_) rfl (by kernel_rfl) (by kernel_rfl) (by kernel_rfl) (fun _ _ _ h => h) (Or.inl ⟨by rfl, ?_⟩) (by assumption) ?_; rotate_left
              · intro W hW; (try dsimp only at hW); go_simp;  try (with_reducible rfl)
              try simp only [Act.put, List.setIfInBounds_toArray, List.set_cons_zero, List.set_cons_succ]
              refine wpAnyH_take (i := 2) (oi := { dst := some 51, op := Op.move (Operand.tmp 10), type := 3, pos := "l2_words.go:196", after := #[], guard := none }) (v := ?_) rfl (by kernel_rfl) (by kernel_rfl) (by kernel_rfl) (fun _ _ _ h => h) (Or.inl ⟨by rfl, ?_⟩) (by assumption) ?_; rotate_left
              · intro W hW; (try dsimp only at hW); go_simp;  try (with_reducible rfl)
              try simp only [Act.put, List.setIfInBounds_toArray, List.set_cons_zero, List.set_cons_succ]
              refine wpAnyH_take (i := 3) (oi := { dst := some 52, op := Op.indexAddr 38 (Operand.tmp 50) (Operand.tmp 51), type := 0, pos := "l2_words.go:196", after := #[{ on := 1, ground := Ground.data }, { on := 2, ground := Ground.data }], guard := none }) (v := ?_) rfl (by kernel_rfl) (by kernel_rfl) (by kernel_rfl) (fun _ _ _ h => h) (Or.inl ⟨by rfl, ?_⟩) (by assumption) ?_; rotate_left
              · intro W hW; (try dsimp only at hW); go_simp;  try (with_reducible rfl)
              try simp only [Act.put, List.setIfInBounds_toArray, List.set_cons_zero, List.set_cons_succ]
              refine wpAnyH_take (i := 4) (oi := { dst := some 53, op := Op.load 3 (Operand.tmp 52), type := 3, pos := "l2_words.go:196", after := #[{ on := 3, ground := Ground.data }], guard := none }) (v := ?_) rfl (by kernel_rfl) (by kernel_rfl) (by kernel_rfl) (fun _ _ _ h => h) (Or.inl ⟨by rfl, ?_⟩) (by assumption) ?_; rotate_left
              · intro W hW; (try dsimp only at hW); go_simp;  try (with_reducible rfl)
              try simp only [Act.put, List.setIfInBounds_toArray, List.set_cons_zero, List.set_cons_succ]
              refine wpAnyH_ready (rs := [5]) (by kernel_rfl) (by simp) (AllReadyH.cons (i := 5) (o := { dst := some 54, op := Op.call { callee := Callee.value (Operand.func 58), args := #[Operand.tmp 49, Operand.tmp 53], argTypes := #[31, 3] }, type := 4, pos := "l2_words.go:196", after := #[{ on := 0, ground := Ground.data }, { on := 4, ground := Ground.data }], guard := none }) rfl (fun K hK => ?_) AllReadyH.nil)
              go_simp
              refine ((unhide CF) _).mono ?_; rintro e w10 ⟨rfl, hb⟩
              try go_wp2_with fail
              refine hK.out _ _ (by (try dsimp only); first | assumption | exact s9 | exact keep7 (by assumption) (by assumption)) (fun hHeld => ?_)
              clear hK K
              try simp only [Act.put, List.setIfInBounds_toArray, List.set_cons_zero, List.set_cons_succ]
              refine wpAnyH_take (i := 6) (oi := { dst := some 55, op := Op.unOp UnOp.not 4 (Operand.tmp 54), type := 4, pos := "l2_words.go:196", after := #[{ on := 5, ground := Ground.data }], guard := none }) (v := ?_) rfl (by kernel_rfl) (by kernel_rfl) (by kernel_rfl) (fun _ _ _ h => h) (Or.inl ⟨by rfl, ?_⟩) (by assumption) ?_; rotate_left
              · intro W hW; (try dsimp only at hW); go_simp;  try (with_reducible rfl)
              try simp only [Act.put, List.setIfInBounds_toArray, List.set_cons_zero, List.set_cons_succ]
              refine wpAnyH_take (i := 7) (oi := { dst := some 56, op := Op.move (Operand.tmp 55), type := 4, pos := "l2_words.go:196", after := #[{ on := 6, ground := Ground.data }, { on := 5, ground := Ground.chain }], guard := none }) (v := ?_) rfl (by kernel_rfl) (by kernel_rfl) (by kernel_rfl) (fun _ _ _ h => h) (Or.inl ⟨by rfl, ?_⟩) (by assumption) ?_; rotate_left
              · intro W hW; (try dsimp only at hW); go_simp;  try (with_reducible rfl)
              try simp only [Act.put, List.setIfInBounds_toArray, List.set_cons_zero, List.set_cons_succ]
              refine wpAnyH_take (i := 8) (oi := { dst := some 57, op := Op.move (Operand.tmp 9), type := 48, pos := "l2_words.go:196", after := #[{ on := 7, ground := Ground.guard }], guard := some (7, false) }) (v := ?_) rfl (by kernel_rfl) (by kernel_rfl) (by kernel_rfl) (fun _ _ _ h => h) (Or.inl ⟨by rfl, ?_⟩) (by assumption) ?_; rotate_left
              · intro W hW; (try dsimp only at hW); go_simp;  try (with_reducible rfl)
              try simp only [Act.put, List.setIfInBounds_toArray, List.set_cons_zero, List.set_cons_succ]
              refine wpAnyH_take (i := 9) (oi := { dst := some 58, op := Op.call { callee := Callee.builtin Builtin.len, args := #[Operand.tmp 57], argTypes := #[48] }, type := 3, pos := "l2_words.go:196", after := #[{ on := 8, ground := Ground.data }, { on := 7, ground := Ground.guard }], guard := some (7, false) }) (v := ?_) rfl (by kernel_rfl) (by kernel_rfl) (by kernel_rfl) (fun _ _ _ h => h) (Or.inl ⟨by rfl, ?_⟩) (by assumption) ?_; rotate_left
              · intro W hW; (try dsimp only at hW); go_simp;  try (with_reducible rfl)
              try simp only [Act.put, List.setIfInBounds_toArray, List.set_cons_zero, List.set_cons_succ]
              refine wpAnyH_take (i := 10) (oi := { dst := some 59, op := Op.binOp BinOp.gtr 3 (Operand.tmp 58) (Operand.const (Value.int IntKind.i64 2000)) 3, type := 4, pos := "l2_words.go:196", after := #[{ on := 9, ground := Ground.data }, { on := 7, ground := Ground.guard }], guard := some (7, false) }) (v := ?_) rfl (by kernel_rfl) (by kernel_rfl) (by kernel_rfl) (fun _ _ _ h => h) (Or.inl ⟨by rfl, ?_⟩) (by assumption) ?_; rotate_left
              · intro W hW; (try dsimp only at hW); go_simp;  try (with_reducible rfl)
              try simp only [Act.put, List.setIfInBounds_toArray, List.set_cons_zero, List.set_cons_succ]
              refine wpAnyH_take (i := 11) (oi := { dst := some 60, op := Op.pick (Operand.tmp 56) (Operand.const (Value.bool true)) (Operand.tmp 59), type := 4, pos := "l2_words.go:196", after := #[{ on := 7, ground := Ground.data }, { on := 10, ground := Ground.data }], guard := none }) (v := ?_) rfl (by kernel_rfl) (by kernel_rfl) (by kernel_rfl) (fun _ _ _ h => h) (Or.inl ⟨by rfl, ?_⟩) (by assumption) ?_; rotate_left
              · intro W hW; (try dsimp only at hW); go_simp;  try (with_reducible rfl)
              try simp only [Act.put, List.setIfInBounds_toArray, List.set_cons_zero, List.set_cons_succ]
              refine wpAnyH_done (by kernel_rfl) ?_ _
              have hb := hHeld.1
              clear hHeld s9 x9
              have W10 := own_below W9 hb
              have D10 := own_below D9 hb
              have P10 := PK.below P9 hb
              have K10 := K9.below hb K9.lt
              have R10 := R9.below hb R9.lt
              have B10 := below_next (Nat.le_refl _) B9 hb
              clear W9 D9 P9 K9 R9 B9 hb
              have a0 : w10.cell? ⟨w.heap.size, 0, none⟩ = some (.int .i64 o) := K10.cell 0
              have a1 : w10.cell? ⟨w.heap.size, 1, none⟩ = some (.int .i64 l) := K10.cell 1
              have a2 : w10.cell? ⟨w.heap.size, 2, none⟩ = some (.int .i64 m) := K10.cell 2
              have a3 : w10.cell? ⟨w.heap.size, 3, none⟩ = some (.slice A' P.length c') := K10.cell 3
              have a4 : w10.cell? ⟨w.heap.size, 4, none⟩ = some (.int .i64 b) := K10.cell 4
              have a5 : w10.cell? ⟨w.heap.size, 5, none⟩ = some (.int .i64 t') := K10.cell 5
              have r0 : w10.cell? ⟨(w.heap.size + 1), 0, none⟩ = some (.int .i64 0) := R10.cell 0
              have r1 : w10.cell? ⟨(w.heap.size + 1), 1, none⟩ = some (.int .i64 0) := R10.cell 1
              have r2 : w10.cell? ⟨(w.heap.size + 1), 2, none⟩ = some (.int .i64 0) := R10.cell 2
              have r3 : w10.cell? ⟨(w.heap.size + 1), 3, none⟩ = some (.slice none 0 0) := R10.cell 3
              have r4 : w10.cell? ⟨(w.heap.size + 1), 4, none⟩ = some (.int .i64 0) := R10.cell 4
              have r5 : w10.cell? ⟨(w.heap.size + 1), 5, none⟩ = some (.int .i64 0) := R10.cell 5
              have fr0 := R10.frozen 0
              have fr1 := R10.frozen 1
              have fr2 := R10.frozen 2
              have fr3 := R10.frozen 3
              have fr4 := R10.frozen 4
              have fr5 := R10.frozen 5
              have RS := blk6_set R10 (.int .i64 o) (.int .i64 l) (.int .i64 m) (.slice A' P.length c') (.int .i64 b) (.int .i64 t')
              have WS := W10.kept (only6 w10 (w.heap.size + 1) (.int .i64 o) (.int .i64 l) (.int .i64 m) (.slice A' P.length c') (.int .i64 b) (.int .i64 t')) (.inr (own_blk_ne W10 R10 (by decide)))
              have BS := below_set6 (g := w.heap.size + 1) B10 (by omega) (.int .i64 o) (.int .i64 l) (.int .i64 m) (.slice A' P.length c') (.int .i64 b) (.int .i64 t')
              clear W10 D10 P10 K10 B10
              go_wp2_with fail
              have q0 := RS.cell 0
              have q1 := RS.cell 1
              have q2 := RS.cell 2
              have q3 := RS.cell 3
              have q4 := RS.cell 4
              have q5 := RS.cell 5
              exact bodyPost_ret (v := .tuple #[kv o l m A' P.length c' b t', .slice Aw2 (ws.length + 1) cw2, .string (str []), .bool false]) (by simp [results, Try.results72, go_sem, q0, q1, q2, q3, q4, q5]; try rfl) rfl (swalk_ret hw1.symm rfl (OwnI.of_own hw1 (own_ints WS)) (by omega) (by simp) HN.out BS)
    · obtain rfl : k = xs.length := by omega
      by_cases hd : ds.length ≤ 2000
      · skip
        have HN : Sx.wk l m b xs ps t 0 = Sx.pick true ws ds := by
          rw [Sx.pick_yes hd]; exact Sx.acc_end (HR.out hd) (Nat.le_refl _)
        have HN := hide HN
        have hdI : (ds.length : Int) ≤ 2000 := by omega
        clear HR HM HK
        have s5 : Below w.heap.size w wr.drew ∧ wr.drew.cell? ⟨w.heap.size, 0, none⟩ = some (.int .i64 o) ∧ wr.drew.cell? ⟨w.heap.size, 1, none⟩ = some (.int .i64 l) ∧ wr.drew.cell? ⟨w.heap.size, 2, none⟩ = some (.int .i64 m) ∧ wr.drew.cell? ⟨w.heap.size, 3, none⟩ = some (.slice A' P.length c') ∧ wr.drew.cell? ⟨w.heap.size, 4, none⟩ = some (.int .i64 b) ∧ wr.drew.cell? ⟨w.heap.size, 5, none⟩ = some (.int .i64 t') ∧ wr.drew.ownsRow w.heap.size 5 1 (.slice Ad ds.length cd) ds.length (bvals ds) := ⟨B5.drew, K5.cell 0, K5.cell 1, K5.cell 2, K5.cell 3, K5.cell 4, K5.cell 5, own_drew D5⟩
        go_wp2_with fail
        refine wp_region_held_drew (S := (fun W => Below w.heap.size w W ∧ W.cell? ⟨w.heap.size, 0, none⟩ = some (.int .i64 o) ∧ W.cell? ⟨w.heap.size, 1, none⟩ = some (.int .i64 l) ∧ W.cell? ⟨w.heap.size, 2, none⟩ = some (.int .i64 m) ∧ W.cell? ⟨w.heap.size, 3, none⟩ = some (.slice A' P.length c') ∧ W.cell? ⟨w.heap.size, 4, none⟩ = some (.int .i64 b) ∧ W.cell? ⟨w.heap.size, 5, none⟩ = some (.int .i64 t') ∧ W.ownsRow w.heap.size 5 1 (.slice Ad ds.length cd) ds.length (bvals ds))) (by kernel_rfl) (by first | assumption | exact s5) (fun hHeld => ?_)
        refine wpAnyH_take (i := 0) (oi := { dst := some 77, op := Op.load 31 (Operand.tmp 2), type := 31, pos := "l2_words.go:203", after := #[], guard := none }) (v := ?_) rfl (by kernel_rfl) (by kernel_rfl) (by kernel_rfl) (fun _ _ _ h => h) (Or.inl ⟨by rfl, ?_⟩) (by assumption) ?_; rotate_left
        · intro W hW; (try dsimp only at hW); go_simp;  try (with_reducible rfl)
        try simp only [Act.put, List.setIfInBounds_toArray, List.set_cons_zero, List.set_cons_succ]
        refine wpAnyH_take (i := 1) (oi := { dst := some 78, op := Op.move (Operand.tmp 8), type := 38, pos := "l2_words.go:203", after := #[{ on := 7, ground := Ground.gcOnly Departure.lateStores }], guard := none }) (v := ?_) rfl (by kernel_rfl) (by kernel_rfl) (by kernel_rfl) (fun _ _ _ h => h) (Or.inl ⟨by rfl, ?_⟩) (by assumption) ?_; rotate_left
        · intro W hW; (try dsimp only at hW); go_simp;  try (with_reducible rfl)
        try simp only [Act.put, List.setIfInBounds_toArray, List.set_cons_zero, List.set_cons_succ]
        refine wpAnyH_take (i := 2) (oi := { dst := some 79, op := Op.move (Operand.tmp 9), type := 48, pos := "l2_words.go:203", after := #[{ on := 8, ground := Ground.gcOnly Departure.lateStores }], guard := none }) (v := ?_) rfl (by kernel_rfl) (by kernel_rfl) (by kernel_rfl) (fun _ _ _ h => h) (Or.inl ⟨by rfl, ?_⟩) (by assumption) ?_; rotate_left
        · intro W hW; (try dsimp only at hW); go_simp;  try (with_reducible rfl)
        try simp only [Act.put, List.setIfInBounds_toArray, List.set_cons_zero, List.set_cons_succ]
        refine wpAnyH_take (i := 3) (oi := { dst := some 80, op := Op.convert 48 9 (Operand.tmp 79), type := 9, pos := "l2_words.go:203", after := #[{ on := 2, ground := Ground.data }, { on := 8, ground := Ground.gcOnly Departure.lateStores }], guard := none }) (v := ?_) rfl (by kernel_rfl) (by kernel_rfl) (by kernel_rfl) (fun _ _ _ h => h) (Or.inl ⟨by rfl, ?_⟩) (by assumption) ?_; rotate_left
        · intro W hW; have hcv := run_own_string (P := Try.prog) W 48 9 5 Try.underlying48 Try.underlying5 Try.underlying9 hW.2.2.2.2.2.2.2; (try dsimp only at hW); go_simp;  try (with_reducible rfl)
        try simp only [Act.put, List.setIfInBounds_toArray, List.set_cons_zero, List.set_cons_succ]
        refine wpAnyH_take (i := 4) (oi := { dst := some 81, op := Op.move (Operand.tmp 9), type := 48, pos := "l2_words.go:203", after := #[], guard := none }) (v := ?_) rfl (by kernel_rfl) (by kernel_rfl) (by kernel_rfl) (fun _ _ _ h => h) (Or.inl ⟨by rfl, ?_⟩) (by assumption) ?_; rotate_left
        · intro W hW; (try dsimp only at hW); go_simp;  try (with_reducible rfl)
        try simp only [Act.put, List.setIfInBounds_toArray, List.set_cons_zero, List.set_cons_succ]
        refine wpAnyH_take (i := 5) (oi := { dst := some 82, op := Op.call { callee := Callee.builtin Builtin.len, args := #[Operand.tmp 81], argTypes := #[48] }, type := 3, pos := "l2_words.go:203", after := #[{ on := 4, ground := Ground.data }], guard := none }) (v := ?_) rfl (by kernel_rfl) (by kernel_rfl) (by kernel_rfl) (fun _ _ _ h => h) (Or.inl ⟨by rfl, ?_⟩) (by assumption) ?_; rotate_left
        · intro W hW; (try dsimp only at hW); go_simp;  try (with_reducible rfl)
        try simp only [Act.put, List.setIfInBounds_toArray, List.set_cons_zero, List.set_cons_succ]
        refine wpAnyH_take (i := 6) (oi := { dst := some 83, op := Op.binOp BinOp.leq 3 (Operand.tmp 82) (Operand.const (Value.int IntKind.i64 2000)) 3, type := 4, pos := "l2_words.go:203", after := #[{ on := 5, ground := Ground.data }, { on := 9, ground := Ground.gcOnly Departure.lateStores }], guard := none }) (v := ?_) rfl (by kernel_rfl) (by kernel_rfl) (by kernel_rfl) (fun _ _ _ h => h) (Or.inl ⟨by rfl, ?_⟩) (by assumption) ?_; rotate_left
        · intro W hW; (try dsimp only at hW); go_simp;  try (with_reducible rfl)
        try simp only [Act.put, List.setIfInBounds_toArray, List.set_cons_zero, List.set_cons_succ]
        refine wpAnyH_ready (rs := [7]) (by kernel_rfl) (by simp) (AllReadyH.cons (i := 7) (o := { dst := none, op := Op.store 31 (Operand.tmp 4) (Operand.tmp 77), type := 0, pos := "l2_words.go:203", after := #[{ on := 0, ground := Ground.data }, { on := 0, ground := Ground.phase }, { on := 1, ground := Ground.textOnly Departure.lateStores }, { on := 2, ground := Ground.textOnly Departure.lateStores }, { on := 3, ground := Ground.textOnly Departure.lateStores }, { on := 4, ground := Ground.textOnly Departure.lateStores }, { on := 5, ground := Ground.textOnly Departure.lateStoresUnsure }, { on := 6, ground := Ground.textOnly Departure.lateStores }], guard := none }) rfl (fun K hK => ?_) AllReadyH.nil)
        have r0 : wr.cell? ⟨(w.heap.size + 1), 0, none⟩ = some (.int .i64 0) := R5.cell 0
        have r1 : wr.cell? ⟨(w.heap.size + 1), 1, none⟩ = some (.int .i64 0) := R5.cell 1
        have r2 : wr.cell? ⟨(w.heap.size + 1), 2, none⟩ = some (.int .i64 0) := R5.cell 2
        have r3 : wr.cell? ⟨(w.heap.size + 1), 3, none⟩ = some (.slice none 0 0) := R5.cell 3
        have r4 : wr.cell? ⟨(w.heap.size + 1), 4, none⟩ = some (.int .i64 0) := R5.cell 4
        have r5 : wr.cell? ⟨(w.heap.size + 1), 5, none⟩ = some (.int .i64 0) := R5.cell 5
        have fr0 := R5.frozen 0
        have fr1 := R5.frozen 1
        have fr2 := R5.frozen 2
        have fr3 := R5.frozen 3
        have fr4 := R5.frozen 4
        have fr5 := R5.frozen 5
        have RS := blk6_set R5 (.int .i64 o) (.int .i64 l) (.int .i64 m) (.slice A' P.length c') (.int .i64 b) (.int .i64 t')
        have HG := hide (only6 wr (w.heap.size + 1) (.int .i64 o) (.int .i64 l) (.int .i64 m) (.slice A' P.length c') (.int .i64 b) (.int .i64 t'))
        have WS := W5.kept HG.out (.inr (own_blk_ne W5 R5 (by decide)))
        have DS := D5.kept HG.out (.inr (own_blk_ne D5 R5 (by decide)))
        have KS := K5.far6 (g := w.heap.size + 1) (by omega) (.int .i64 o) (.int .i64 l) (.int .i64 m) (.slice A' P.length c') (.int .i64 b) (.int .i64 t')
        have BS := below_set6 (g := w.heap.size + 1) B5 (by omega) (.int .i64 o) (.int .i64 l) (.int .i64 m) (.slice A' P.length c') (.int .i64 b) (.int .i64 t')
        have HS : Below w.heap.size w ((((((wr.setCell ⟨w.heap.size + 1, 0, none⟩ (.int .i64 o)).setCell ⟨w.heap.size + 1, 1, none⟩ (.int .i64 l)).setCell ⟨w.heap.size + 1, 2, none⟩ (.int .i64 m)).setCell ⟨w.heap.size + 1, 3, none⟩ (.slice A' P.length c')).setCell ⟨w.heap.size + 1, 4, none⟩ (.int .i64 b)).setCell ⟨w.heap.size + 1, 5, none⟩ (.int .i64 t')).drew ∧ ((((((wr.setCell ⟨w.heap.size + 1, 0, none⟩ (.int .i64 o)).setCell ⟨w.heap.size + 1, 1, none⟩ (.int .i64 l)).setCell ⟨w.heap.size + 1, 2, none⟩ (.int .i64 m)).setCell ⟨w.heap.size + 1, 3, none⟩ (.slice A' P.length c')).setCell ⟨w.heap.size + 1, 4, none⟩ (.int .i64 b)).setCell ⟨w.heap.size + 1, 5, none⟩ (.int .i64 t')).drew.cell? ⟨w.heap.size, 0, none⟩ = some (.int .i64 o) ∧ ((((((wr.setCell ⟨w.heap.size + 1, 0, none⟩ (.int .i64 o)).setCell ⟨w.heap.size + 1, 1, none⟩ (.int .i64 l)).setCell ⟨w.heap.size + 1, 2, none⟩ (.int .i64 m)).setCell ⟨w.heap.size + 1, 3, none⟩ (.slice A' P.length c')).setCell ⟨w.heap.size + 1, 4, none⟩ (.int .i64 b)).setCell ⟨w.heap.size + 1, 5, none⟩ (.int .i64 t')).drew.cell? ⟨w.heap.size, 1, none⟩ = some (.int .i64 l) ∧ ((((((wr.setCell ⟨w.heap.size + 1, 0, none⟩ (.int .i64 o)).setCell ⟨w.heap.size + 1, 1, none⟩ (.int .i64 l)).setCell ⟨w.heap.size + 1, 2, none⟩ (.int .i64 m)).setCell ⟨w.heap.size + 1, 3, none⟩ (.slice A' P.length c')).setCell ⟨w.heap.size + 1, 4, none⟩ (.int .i64 b)).setCell ⟨w.heap.size + 1, 5, none⟩ (.int .i64 t')).drew.cell? ⟨w.heap.size, 2, none⟩ = some (.int .i64 m) ∧ ((((((wr.setCell ⟨w.heap.size + 1, 0, none⟩ (.int .i64 o)).setCell ⟨w.heap.size + 1, 1, none⟩ (.int .i64 l)).setCell ⟨w.heap.size + 1, 2, none⟩ (.int .i64 m)).setCell ⟨w.heap.size + 1, 3, none⟩ (.slice A' P.length c')).setCell ⟨w.heap.size + 1, 4, none⟩ (.int .i64 b)).setCell ⟨w.heap.size + 1, 5, none⟩ (.int .i64 t')).drew.cell? ⟨w.heap.size, 3, none⟩ = some (.slice A' P.length c') ∧ ((((((wr.setCell ⟨w.heap.size + 1, 0, none⟩ (.int .i64 o)).setCell ⟨w.heap.size + 1, 1, none⟩ (.int .i64 l)).setCell ⟨w.heap.size + 1, 2, none⟩ (.int .i64 m)).setCell ⟨w.heap.size + 1, 3, none⟩ (.slice A' P.length c')).setCell ⟨w.heap.size + 1, 4, none⟩ (.int .i64 b)).setCell ⟨w.heap.size + 1, 5, none⟩ (.int .i64 t')).drew.cell? ⟨w.heap.size, 4, none⟩ = some (.int .i64 b) ∧ ((((((wr.setCell ⟨w.heap.size + 1, 0, none⟩ (.int .i64 o)).setCell ⟨w.heap.size + 1, 1, none⟩ (.int .i64 l)).setCell ⟨w.heap.size + 1, 2, none⟩ (.int .i64 m)).setCell ⟨w.heap.size + 1, 3, none⟩ (.slice A' P.length c')).setCell ⟨w.heap.size + 1, 4, none⟩ (.int .i64 b)).setCell ⟨w.heap.size + 1, 5, none⟩ (.int .i64 t')).drew.cell? ⟨w.heap.size, 5, none⟩ = some (.int .i64 t') ∧ ((((((wr.setCell ⟨w.heap.size + 1, 0, none⟩ (.int .i64 o)).setCell ⟨w.heap.size + 1, 1, none⟩ (.int .i64 l)).setCell ⟨w.heap.size + 1, 2, none⟩ (.int .i64 m)).setCell ⟨w.heap.size + 1, 3, none⟩ (.slice A' P.length c')).setCell ⟨w.heap.size + 1, 4, none⟩ (.int .i64 b)).setCell ⟨w.heap.size + 1, 5, none⟩ (.int .i64 t')).drew.ownsRow w.heap.size 5 1 (.slice Ad ds.length cd) ds.length (bvals ds) := ⟨BS.drew, (Blk.drew KS).cell 0, (Blk.drew KS).cell 1, (Blk.drew KS).cell 2, (Blk.drew KS).cell 3, (Blk.drew KS).cell 4, (Blk.drew KS).cell 5, own_drew DS⟩
        go_simp
        clear r0 fr0 r1 fr1 r2 fr2 r3 fr3 r4 fr4 r5 fr5 HG
        refine hK.out _ _ (by (try dsimp only); first | exact HS) (fun hHeld => ?_)
        clear hK K
        try simp only [Act.put, List.setIfInBounds_toArray, List.set_cons_zero, List.set_cons_succ]
        refine wpAnyH_take (i := 8) (oi := { dst := some 5, op := Op.assign (Operand.tmp 78), type := 38, pos := "l2_words.go:203", after := #[{ on := 1, ground := Ground.data }, { on := 7, ground := Ground.chain }, { on := 0, ground := Ground.phase }, { on := 1, ground := Ground.phase }, { on := 2, ground := Ground.textOnly Departure.lateStores }, { on := 3, ground := Ground.textOnly Departure.lateStores }, { on := 4, ground := Ground.textOnly Departure.lateStores }, { on := 5, ground := Ground.textOnly Departure.lateStoresUnsure }, { on := 6, ground := Ground.textOnly Departure.lateStores }, { on := 7, ground := Ground.phase }], guard := none }) (v := ?_) rfl (by kernel_rfl) (by kernel_rfl) (by kernel_rfl) (fun _ _ _ h => h) (Or.inl ⟨by rfl, ?_⟩) (by assumption) ?_; rotate_left
        · intro W hW; (try dsimp only at hW); go_simp;  try (with_reducible rfl)
        try simp only [Act.put, List.setIfInBounds_toArray, List.set_cons_zero, List.set_cons_succ]
        refine wpAnyH_take (i := 9) (oi := { dst := some 6, op := Op.assign (Operand.tmp 80), type := 9, pos := "l2_words.go:203", after := #[{ on := 3, ground := Ground.data }, { on := 8, ground := Ground.chain }, { on := 0, ground := Ground.phase }, { on := 1, ground := Ground.phase }, { on := 2, ground := Ground.phase }, { on := 3, ground := Ground.phase }, { on := 4, ground := Ground.textOnly Departure.lateStores }, { on := 5, ground := Ground.textOnly Departure.lateStoresUnsure }, { on := 6, ground := Ground.textOnly Departure.lateStores }, { on := 7, ground := Ground.phase }, { on := 8, ground := Ground.phase }], guard := none }) (v := ?_) rfl (by kernel_rfl) (by kernel_rfl) (by kernel_rfl) (fun _ _ _ h => h) (Or.inl ⟨by rfl, ?_⟩) (by assumption) ?_; rotate_left
        · intro W hW; (try dsimp only at hW); go_simp;  try (with_reducible rfl)
        try simp only [Act.put, List.setIfInBounds_toArray, List.set_cons_zero, List.set_cons_succ]
        refine wpAnyH_take (i := 10) (oi := { dst := some 7, op := Op.assign (Operand.tmp 83), type := 4, pos := "l2_words.go:203", after := #[{ on := 6, ground := Ground.data }, { on := 9, ground := Ground.chain }, { on := 0, ground := Ground.phase }, { on := 1, ground := Ground.phase }, { on := 2, ground := Ground.phase }, { on := 3, ground := Ground.phase }, { on := 4, ground := Ground.phase }, { on := 5, ground := Ground.phase }, { on := 6, ground := Ground.phase }, { on := 7, ground := Ground.phase }, { on := 8, ground := Ground.phase }, { on := 9, ground := Ground.phase }], guard := none }) (v := ?_) rfl (by kernel_rfl) (by kernel_rfl) (by kernel_rfl) (fun _ _ _ h => h) (Or.inl ⟨by rfl, ?_⟩) (by assumption) ?_; rotate_left
        · intro W hW; (try dsimp only at hW); go_simp;  try (with_reducible rfl)
        try simp only [Act.put, List.setIfInBounds_toArray, List.set_cons_zero, List.set_cons_succ]
        refine wpAnyH_done (by kernel_rfl) ?_ _
        clear hHeld s5
        go_wp2_with fail
        have q0 := (Blk.drew RS).cell 0
        have q1 := (Blk.drew RS).cell 1
        have q2 := (Blk.drew RS).cell 2
        have q3 := (Blk.drew RS).cell 3
        have q4 := (Blk.drew RS).cell 4
        have q5 := (Blk.drew RS).cell 5
        exact bodyPost_ret (v := .tuple #[kv o l m A' P.length c' b t', .slice Aw ws.length cw, .string (str ds), .bool true]) (by simp [results, Try.results72, go_sem, q0, q1, q2, q3, q4, q5]; try rfl) rfl (swalk_ret rfl rfl (OwnI.of_own rfl (own_drew WS)) (by omega) (by omega) HN.out BS.drew)
      · skip
        have HN : Sx.wk l m b xs ps t 0 = Sx.pick false ws ds := by
          rw [Sx.pick_no]; exact HM.out (by omega)
        have HN := hide HN
        have hdI : (2000 : Int) < (ds.length : Int) := by omega
        have hdD : decide ((ds.length : Int) ≤ 2000) = false := decide_eq_false (by omega)
        clear HR HM HK
        have s5 : Below w.heap.size w wr.drew ∧ wr.drew.cell? ⟨w.heap.size, 0, none⟩ = some (.int .i64 o) ∧ wr.drew.cell? ⟨w.heap.size, 1, none⟩ = some (.int .i64 l) ∧ wr.drew.cell? ⟨w.heap.size, 2, none⟩ = some (.int .i64 m) ∧ wr.drew.cell? ⟨w.heap.size, 3, none⟩ = some (.slice A' P.length c') ∧ wr.drew.cell? ⟨w.heap.size, 4, none⟩ = some (.int .i64 b) ∧ wr.drew.cell? ⟨w.heap.size, 5, none⟩ = some (.int .i64 t') ∧ wr.drew.ownsRow w.heap.size 5 1 (.slice Ad ds.length cd) ds.length (bvals ds) := ⟨B5.drew, K5.cell 0, K5.cell 1, K5.cell 2, K5.cell 3, K5.cell 4, K5.cell 5, own_drew D5⟩
        go_wp2_with fail
        refine wp_region_held_drew (S := (fun W => Below w.heap.size w W ∧ W.cell? ⟨w.heap.size, 0, none⟩ = some (.int .i64 o) ∧ W.cell? ⟨w.heap.size, 1, none⟩ = some (.int .i64 l) ∧ W.cell? ⟨w.heap.size, 2, none⟩ = some (.int .i64 m) ∧ W.cell? ⟨w.heap.size, 3, none⟩ = some (.slice A' P.length c') ∧ W.cell? ⟨w.heap.size, 4, none⟩ = some (.int .i64 b) ∧ W.cell? ⟨w.heap.size, 5, none⟩ = some (.int .i64 t') ∧ W.ownsRow w.heap.size 5 1 (.slice Ad ds.length cd) ds.length (bvals ds))) (by kernel_rfl) (by first | assumption | exact s5) (fun hHeld => ?_)
        refine wpAnyH_take (i := 0) (oi := { dst := some 77, op := Op.load 31 (Operand.tmp 2), type := 31, pos := "l2_words.go:203", after := #[], guard := none }) (v := ?_) rfl (by kernel_rfl) (by kernel_rfl) (by kernel_rfl) (fun _ _ _ h => h) (Or.inl ⟨by rfl, ?_⟩) (by assumption) ?_; rotate_left
        · intro W hW; (try dsimp only at hW); go_simp;  try (with_reducible rfl)
        try simp only [Act.put, List.setIfInBounds_toArray, List.set_cons_zero, List.set_cons_succ]
        refine wpAnyH_take (i := 1) (oi := { dst := some 78, op := Op.move (Operand.tmp 8), type := 38, pos := "l2_words.go:203", after := #[{ on := 7, ground := Ground.gcOnly Departure.lateStores }], guard := none }) (v := ?_) rfl (by kernel_rfl) (by kernel_rfl) (by kernel_rfl) (fun _ _ _ h => h) (Or.inl ⟨by rfl, ?_⟩) (by assumption) ?_; rotate_left
        · intro W hW; (try dsimp only at hW); go_simp;  try (with_reducible rfl)
        try simp only [Act.put, List.setIfInBounds_toArray, List.set_cons_zero, List.set_cons_succ]
        refine wpAnyH_take (i := 2) (oi := { dst := some 79, op := Op.move (Operand.tmp 9), type := 48, pos := "l2_words.go:203", after := #[{ on := 8, ground := Ground.gcOnly Departure.lateStores }], guard := none }) (v := ?_) rfl (by kernel_rfl) (by kernel_rfl) (by kernel_rfl) (fun _ _ _ h => h) (Or.inl ⟨by rfl, ?_⟩) (by assumption) ?_; rotate_left
        · intro W hW; (try dsimp only at hW); go_simp;  try (with_reducible rfl)
        try simp only [Act.put, List.setIfInBounds_toArray, List.set_cons_zero, List.set_cons_succ]
        refine wpAnyH_take (i := 3) (oi := { dst := some 80, op := Op.convert 48 9 (Operand.tmp 79), type := 9, pos := "l2_words.go:203", after := #[{ on := 2, ground := Ground.data }, { on := 8, ground := Ground.gcOnly Departure.lateStores }], guard := none }) (v := ?_) rfl (by kernel_rfl) (by kernel_rfl) (by kernel_rfl) (fun _ _ _ h => h) (Or.inl ⟨by rfl, ?_⟩) (by assumption) ?_; rotate_left
        · intro W hW; have hcv := run_own_string (P := Try.prog) W 48 9 5 Try.underlying48 Try.underlying5 Try.underlying9 hW.2.2.2.2.2.2.2; (try dsimp only at hW); go_simp;  try (with_reducible rfl)
        try simp only [Act.put, List.setIfInBounds_toArray, List.set_cons_zero, List.set_cons_succ]
        refine wpAnyH_take (i := 4) (oi := { dst := some 81, op := Op.move (Operand.tmp 9), type := 48, pos := "l2_words.go:203", after := #[], guard := none }) (v := ?_) rfl (by kernel_rfl) (by kernel_rfl) (by kernel_rfl) (fun _ _ _ h => h) (Or.inl ⟨by rfl, ?_⟩) (by assumption) ?_; rotate_left
        · intro W hW; (try dsimp only at hW); go_simp;  try (with_reducible rfl)
        try simp only [Act.put, List.setIfInBounds_toArray, List.set_cons_zero, List.set_cons_succ]
        refine wpAnyH_take (i := 5) (oi := { dst := some 82, op := Op.call { callee := Callee.builtin Builtin.len, args := #[Operand.tmp 81], argTypes := #[48] }, type := 3, pos := "l2_words.go:203", after := #[{ on := 4, ground := Ground.data }], guard := none }) (v := ?_) rfl (by kernel_rfl) (by kernel_rfl) (by kernel_rfl) (fun _ _ _ h => h) (Or.inl ⟨by rfl, ?_⟩) (by assumption) ?_; rotate_left
        · intro W hW; (try dsimp only at hW); go_simp;  try (with_reducible rfl)
        try simp only [Act.put, List.setIfInBounds_toArray, List.set_cons_zero, List.set_cons_succ]
        refine wpAnyH_take (i := 6) (oi := { dst := some 83, op := Op.binOp BinOp.leq 3 (Operand.tmp 82) (Operand.const (Value.int IntKind.i64 2000)) 3, type := 4, pos := "l2_words.go:203", after := #[{ on := 5, ground := Ground.data }, { on := 9, ground := Ground.gcOnly Departure.lateStores }], guard := none }) (v := ?_) rfl (by kernel_rfl) (by kernel_rfl) (by kernel_rfl) (fun _ _ _ h => h) (Or.inl ⟨by rfl, ?_⟩) (by assumption) ?_; rotate_left
        · intro W hW; (try dsimp only at hW); go_simp;  try (with_reducible rfl)
        try simp only [Act.put, List.setIfInBounds_toArray, List.set_cons_zero, List.set_cons_succ]
        refine wpAnyH_ready (rs := [7]) (by kernel_rfl) (by simp) (AllReadyH.cons (i := 7) (o := { dst := none, op := Op.store 31 (Operand.tmp 4) (Operand.tmp 77), type := 0, pos := "l2_words.go:203", after := #[{ on := 0, ground := Ground.data }, { on := 0, ground := Ground.phase }, { on := 1, ground := Ground.textOnly Departure.lateStores }, { on := 2, ground := Ground.textOnly Departure.lateStores }, { on := 3, ground := Ground.textOnly Departure.lateStores }, { on := 4, ground := Ground.textOnly Departure.lateStores }, { on := 5, ground := Ground.textOnly Departure.lateStoresUnsure }, { on := 6, ground := Ground.textOnly Departure.lateStores }], guard := none }) rfl (fun K hK => ?_) AllReadyH.nil)
        have r0 : wr.cell? ⟨(w.heap.size + 1), 0, none⟩ = some (.int .i64 0) := R5.cell 0
        have r1 : wr.cell? ⟨(w.heap.size + 1), 1, none⟩ = some (.int .i64 0) := R5.cell 1
        have r2 : wr.cell? ⟨(w.heap.size + 1), 2, none⟩ = some (.int .i64 0) := R5.cell 2
        have r3 : wr.cell? ⟨(w.heap.size + 1), 3, none⟩ = some (.slice none 0 0) := R5.cell 3
        have r4 : wr.cell? ⟨(w.heap.size + 1), 4, none⟩ = some (.int .i64 0) := R5.cell 4
        have r5 : wr.cell? ⟨(w.heap.size + 1), 5, none⟩ = some (.int .i64 0) := R5.cell 5
        have fr0 := R5.frozen 0
        have fr1 := R5.frozen 1
        have fr2 := R5.frozen 2
        have fr3 := R5.frozen 3
        have fr4 := R5.frozen 4
        have fr5 := R5.frozen 5
        have RS := blk6_set R5 (.int .i64 o) (.int .i64 l) (.int .i64 m) (.slice A' P.length c') (.int .i64 b) (.int .i64 t')
        have HG := hide (only6 wr (w.heap.size + 1) (.int .i64 o) (.int .i64 l) (.int .i64 m) (.slice A' P.length c') (.int .i64 b) (.int .i64 t'))
        have WS := W5.kept HG.out (.inr (own_blk_ne W5 R5 (by decide)))
        have DS := D5.kept HG.out (.inr (own_blk_ne D5 R5 (by decide)))
        have KS := K5.far6 (g := w.heap.size + 1) (by omega) (.int .i64 o) (.int .i64 l) (.int .i64 m) (.slice A' P.length c') (.int .i64 b) (.int .i64 t')
        have BS := below_set6 (g := w.heap.size + 1) B5 (by omega) (.int .i64 o) (.int .i64 l) (.int .i64 m) (.slice A' P.length c') (.int .i64 b) (.int .i64 t')
        have HS : Below w.heap.size w ((((((wr.setCell ⟨w.heap.size + 1, 0, none⟩ (.int .i64 o)).setCell ⟨w.heap.size + 1, 1, none⟩ (.int .i64 l)).setCell ⟨w.heap.size + 1, 2, none⟩ (.int .i64 m)).setCell ⟨w.heap.size + 1, 3, none⟩ (.slice A' P.length c')).setCell ⟨w.heap.size + 1, 4, none⟩ (.int .i64 b)).setCell ⟨w.heap.size + 1, 5, none⟩ (.int .i64 t')).drew ∧ ((((((wr.setCell ⟨w.heap.size + 1, 0, none⟩ (.int .i64 o)).setCell ⟨w.heap.size + 1, 1, none⟩ (.int .i64 l)).setCell ⟨w.heap.size + 1, 2, none⟩ (.int .i64 m)).setCell ⟨w.heap.size + 1, 3, none⟩ (.slice A' P.length c')).setCell ⟨w.heap.size + 1, 4, none⟩ (.int .i64 b)).setCell ⟨w.heap.size + 1, 5, none⟩ (.int .i64 t')).drew.cell? ⟨w.heap.size, 0, none⟩ = some (.int .i64 o) ∧ ((((((wr.setCell ⟨w.heap.size + 1, 0, none⟩ (.int .i64 o)).setCell ⟨w.heap.size + 1, 1, none⟩ (.int .i64 l)).setCell ⟨w.heap.size + 1, 2, none⟩ (.int .i64 m)).setCell ⟨w.heap.size + 1, 3, none⟩ (.slice A' P.length c')).setCell ⟨w.heap.size + 1, 4, none⟩ (.int .i64 b)).setCell ⟨w.heap.size + 1, 5, none⟩ (.int .i64 t')).drew.cell? ⟨w.heap.size, 1, none⟩ = some (.int .i64 l) ∧ ((((((wr.setCell ⟨w.heap.size + 1, 0, none⟩ (.int .i64 o)).setCell ⟨w.heap.size + 1, 1, none⟩ (.int .i64 l)).setCell ⟨w.heap.size + 1, 2, none⟩ (.int .i64 m)).setCell ⟨w.heap.size + 1, 3, none⟩ (.slice A' P.length c')).setCell ⟨w.heap.size + 1, 4, none⟩ (.int .i64 b)).setCell ⟨w.heap.size + 1, 5, none⟩ (.int .i64 t')).drew.cell? ⟨w.heap.size, 2, none⟩ = some (.int .i64 m) ∧ ((((((wr.setCell ⟨w.heap.size + 1, 0, none⟩ (.int .i64 o)).setCell ⟨w.heap.size + 1, 1, none⟩ (.int .i64 l)).setCell ⟨w.heap.size + 1, 2, none⟩ (.int .i64 m)).setCell ⟨w.heap.size + 1, 3, none⟩ (.slice A' P.length c')).setCell ⟨w.heap.size + 1, 4, none⟩ (.int .i64 b)).setCell ⟨w.heap.size + 1, 5, none⟩ (.int .i64 t')).drew.cell? ⟨w.heap.size, 3, none⟩ = some (.slice A' P.length c') ∧ ((((((wr.setCell ⟨w.heap.size + 1, 0, none⟩ (.int .i64 o)).setCell ⟨w.heap.size + 1, 1, none⟩ (.int .i64 l)).setCell ⟨w.heap.size + 1, 2, none⟩ (.int .i64 m)).setCell ⟨w.heap.size + 1, 3, none⟩ (.slice A' P.length c')).setCell ⟨w.heap.size + 1, 4, none⟩ (.int .i64 b)).setCell ⟨w.heap.size + 1, 5, none⟩ (.int .i64 t')).drew.cell? ⟨w.heap.size, 4, none⟩ = some (.int .i64 b) ∧ ((((((wr.setCell ⟨w.heap.size + 1, 0, none⟩ (.int .i64 o)).setCell ⟨w.heap.size + 1, 1, none⟩ (.int .i64 l)).setCell ⟨w.heap.size + 1, 2, none⟩ (.int .i64 m)).setCell ⟨w.heap.size + 1, 3, none⟩ (.slice A' P.length c')).setCell ⟨w.heap.size + 1, 4, none⟩ (.int .i64 b)).setCell ⟨w.heap.size + 1, 5, none⟩ (.int .i64 t')).drew.cell? ⟨w.heap.size, 5, none⟩ = some (.int .i64 t') ∧ ((((((wr.setCell ⟨w.heap.size + 1, 0, none⟩ (.int .i64 o)).setCell ⟨w.heap.size + 1, 1, none⟩ (.int .i64 l)).setCell ⟨w.heap.size + 1, 2, none⟩ (.int .i64 m)).setCell ⟨w.heap.size + 1, 3, none⟩ (.slice A' P.length c')).setCell ⟨w.heap.size + 1, 4, none⟩ (.int .i64 b)).setCell ⟨w.heap.size + 1, 5, none⟩ (.int .i64 t')).drew.ownsRow w.heap.size 5 1 (.slice Ad ds.length cd) ds.length (bvals ds) := ⟨BS.drew, (Blk.drew KS).cell 0, (Blk.drew KS).cell 1, (Blk.drew KS).cell 2, (Blk.drew KS).cell 3, (Blk.drew KS).cell 4, (Blk.drew KS).cell 5, own_drew DS⟩
        go_simp
        clear r0 fr0 r1 fr1 r2 fr2 r3 fr3 r4 fr4 r5 fr5 HG
        refine hK.out _ _ (by (try dsimp only); first | exact HS) (fun hHeld => ?_)
        clear hK K
        try simp only [Act.put, List.setIfInBounds_toArray, List.set_cons_zero, List.set_cons_succ]
        refine wpAnyH_take (i := 8) (oi := { dst := some 5, op := Op.assign (Operand.tmp 78), type := 38, pos := "l2_words.go:203", after := #[{ on := 1, ground := Ground.data }, { on := 7, ground := Ground.chain }, { on := 0, ground := Ground.phase }, { on := 1, ground := Ground.phase }, { on := 2, ground := Ground.textOnly Departure.lateStores }, { on := 3, ground := Ground.textOnly Departure.lateStores }, { on := 4, ground := Ground.textOnly Departure.lateStores }, { on := 5, ground := Ground.textOnly Departure.lateStoresUnsure }, { on := 6, ground := Ground.textOnly Departure.lateStores }, { on := 7, ground := Ground.phase }], guard := none }) (v := ?_) rfl (by kernel_rfl) (by kernel_rfl) (by kernel_rfl) (fun _ _ _ h => h) (Or.inl ⟨by rfl, ?_⟩) (by assumption) ?_; rotate_left
        · intro W hW; (try dsimp only at hW); go_simp;  try (with_reducible rfl)
        try simp only [Act.put, List.setIfInBounds_toArray, List.set_cons_zero, List.set_cons_succ]
        refine wpAnyH_take (i := 9) (oi := { dst := some 6, op := Op.assign (Operand.tmp 80), type := 9, pos := "l2_words.go:203", after := #[{ on := 3, ground := Ground.data }, { on := 8, ground := Ground.chain }, { on := 0, ground := Ground.phase }, { on := 1, ground := Ground.phase }, { on := 2, ground := Ground.phase }, { on := 3, ground := Ground.phase }, { on := 4, ground := Ground.textOnly Departure.lateStores }, { on := 5, ground := Ground.textOnly Departure.lateStoresUnsure }, { on := 6, ground := Ground.textOnly Departure.lateStores }, { on := 7, ground := Ground.phase }, { on := 8, ground := Ground.phase }], guard := none }) (v := ?_) rfl (by kernel_rfl) (by kernel_rfl) (by kernel_rfl) (fun _ _ _ h => h) (Or.inl ⟨by rfl, ?_⟩) (by assumption) ?_; rotate_left
        · intro W hW; (try dsimp only at hW); go_simp;  try (with_reducible rfl)
        try simp only [Act.put, List.setIfInBounds_toArray, List.set_cons_zero, List.set_cons_succ]
        refine wpAnyH_take (i := 10) (oi := { dst := some 7, op := Op.assign (Operand.tmp 83), type := 4, pos := "l2_words.go:203", after := #[{ on := 6, ground := Ground.data }, { on := 9, ground := Ground.chain }, { on := 0, ground := Ground.phase }, { on := 1, ground := Ground.phase }, { on := 2, ground := Ground.phase }, { on := 3, ground := Ground.phase }, { on := 4, ground := Ground.phase }, { on := 5, ground := Ground.phase }, { on := 6, ground := Ground.phase }, { on := 7, ground := Ground.phase }, { on := 8, ground := Ground.phase }, { on := 9, ground := Ground.phase }], guard := none }) (v := ?_) rfl (by kernel_rfl) (by kernel_rfl) (by kernel_rfl) (fun _ _ _ h => h) (Or.inl ⟨by rfl, ?_⟩) (by assumption) ?_; rotate_left
        · intro W hW; (try dsimp only at hW); go_simp;  try (with_reducible rfl)
        try simp only [Act.put, List.setIfInBounds_toArray, List.set_cons_zero, List.set_cons_succ]
        refine wpAnyH_done (by kernel_rfl) ?_ _
        clear hHeld s5
        go_wp2_with fail
        have q0 := (Blk.drew RS).cell 0
        have q1 := (Blk.drew RS).cell 1
        have q2 := (Blk.drew RS).cell 2
        have q3 := (Blk.drew RS).cell 3
        have q4 := (Blk.drew RS).cell 4
        have q5 := (Blk.drew RS).cell 5
        exact bodyPost_ret (v := .tuple #[kv o l m A' P.length c' b t', .slice Aw ws.length cw, .string (str ds), .bool false]) (by simp [results, Try.results72, go_sem, q0, q1, q2, q3, q4, q5]; try rfl) rfl (swalk_ret rfl rfl (OwnI.of_own rfl (own_drew WS)) (by omega) (by omega) HN.out BS.drew)

end Go.Proofs.Ytegfcpdkehgdpaa

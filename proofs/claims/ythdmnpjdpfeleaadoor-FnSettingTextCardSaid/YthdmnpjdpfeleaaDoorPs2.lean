/- The walks of parseNumber and ParseSetting. Conditions: the tables that they read are laid; a text of at most 1048576 bytes. -/
import Derived.Test.YthdmnpjdpfeleaaDoorPs1
import Derived.Test.YthdmnpjdpfeleaaDoorRows
import Derived.Lib.AppendIntMem
namespace Go.Proofs.YthdmnpjdpfeleaaDoor
open Go.RowKit

/-- The table's name, as the row lists it. -/
abbrev tabName : String := (Rows.fnExactParseSettingRow.laid.getD 2 ("", .nil)).1
/-- What start-up laid and the walks read: a table, two errors, a number. -/
def Env (w : World) : Prop :=
  Lib.TabIs Tryd.prog w tabName .u64 Lib.pow10Tab ∧ (∃ te pe, w.cell? ⟨1, 0, none⟩ = some (.iface te pe)) ∧ (∃ te pe, w.cell? ⟨2, 0, none⟩ = some (.iface te pe)) ∧ ∃ m, w.cell? ⟨0, 0, none⟩ = some (.int .i64 m)
theorem Env.below {w w' : World} {B : Nat} (h : Env w) (hb : Below w.heap.size w w') (_hB : B = B) : Env w' := by
  obtain ⟨h1, ⟨t1, p1, h2⟩, ⟨t2, p2, h3⟩, m, h4⟩ := h
  exact ⟨Lib.tabBelow_of_tabIs h1 w' hb, ⟨t1, p1, cell_keep hb h2⟩, ⟨t2, p2, cell_keep hb h3⟩, m, cell_keep hb h4⟩

set_option maxRecDepth 100000 in
set_option maxHeartbeats 2000000 in
theorem impl_parseNumber (u : ByteArray) (w : World) (hu : u.size ≤ 1048576) (hE : Env w) :
    Calls Tryd.prog 17 #[.string u] w fun e w' => e = .returned (.tuple #[.int .i64 ((Sx.numR u).getD 0), .bool (Sx.numR u).isSome]) ∧ Below w.heap.size w w' := by
  obtain ⟨_, ⟨t1, p1, h2⟩, ⟨t2, p2, h3⟩, _⟩ := id hE
  rcases hh : Lib.atoiAll u.data.toList with n | _ | _
  · have hbd := Lib.atoiAll_bounds hh
    have CA := hide (fun wx => Tryd.strconv_Atoi_ok u (by omega) n hh wx)
    have CI := hide (fun (wx : World) (h : Env wx) => Any.strconv_Itoa Tryd.laysM171 n hbd.1 hbd.2 wx h.1)
    have HN := hide (show Sx.numR u = if str (Lib.itoa n) = u then some n else none by unfold Sx.numR; rw [hh])
    clear hh h2 h3
    go_enter Tryd.func17, Tryd.ntmps17
    go_wp2_with fail
    refine ((unhide CA) _).mono ?_; rintro e w1 ⟨rfl, hw1⟩
    have B1 : Below w.heap.size w w1 := by
      rcases hw1 with rfl | ⟨t, rfl⟩
      · exact Below.refl _ _
      · exact Lib.bytesWorld_below _ _ _
    clear hw1 CA
    go_wp2_with fail
    refine ((unhide CI) _ (hE.below B1 (rfl : 0 = 0))).mono ?_; rintro e w2 ⟨rfl, k, os, hw2⟩
    have B2 : Below w.heap.size w w2 := by rw [hw2]; exact below_next (Nat.le_refl _) B1 (Lib.below_grow _ _ (Nat.le_refl _) _ _)
    clear hw2 CI B1
    obtain ⟨s, hs⟩ : ∃ s : ByteArray, s = ⟨(Lib.itoa n).toArray⟩ := ⟨_, rfl⟩
    rw [← hs]
    have HS := hide (show str (Lib.itoa n) = s from hs.symm)
    clear hs
    by_cases he : s = u
    · have et : (s.toList == u.toList) = true := Sx.text_eq he
      have HE := hide he
      clear he
      go_wp2_with fail
      exact bodyPost_ret (v := .tuple #[.int .i64 n, .bool true]) (by simp [results, Tryd.results17, go_sem]) rfl ⟨by rw [HN.out, HS.out, if_pos HE.out]; rfl, B2⟩
    · have et : (s.toList == u.toList) = false := Sx.text_ne he
      go_wp2_with fail
      exact bodyPost_ret (v := .tuple #[.int .i64 0, .bool false]) (by simp [results, Tryd.results17, go_sem]) rfl ⟨by rw [HN.out, HS.out, if_neg he]; rfl, B2⟩
  · have CA := hide (fun (wx : World) (h : wx.cell? ⟨1, 0, none⟩ = some (.iface t1 p1)) => Any.strconv_Atoi_syntax Tryd.laysC172 u (by omega) hh (.iface t1 p1) wx h (.inr ⟨_, _, rfl⟩))
    have HN := hide (show Sx.numR u = none by unfold Sx.numR; rw [hh])
    have HC := hide h2
    clear hh h2 h3
    go_enter Tryd.func17, Tryd.ntmps17
    go_wp2_with fail
    refine ((unhide CA) _ HC.out).mono ?_; rintro e w1 ⟨N, rfl, _, _, B1⟩
    go_wp2_with fail
    exact bodyPost_ret (v := .tuple #[.int .i64 0, .bool false]) (by simp [results, Tryd.results17, go_sem]) rfl ⟨by rw [HN.out]; rfl, B1⟩
  · have CA := hide (fun (wx : World) (h : wx.cell? ⟨2, 0, none⟩ = some (.iface t2 p2)) => Any.strconv_Atoi_range Tryd.laysC172 u (by omega) hh (.iface t2 p2) wx h (.inr ⟨_, _, rfl⟩))
    have HN := hide (show Sx.numR u = none by unfold Sx.numR; rw [hh])
    have HC := hide h3
    clear hh h2 h3
    go_enter Tryd.func17, Tryd.ntmps17
    go_wp2_with fail
    refine ((unhide CA) _ HC.out).mono ?_; rintro e w1 ⟨N, rfl, _, _, B1⟩
    go_wp2_with fail
    exact bodyPost_ret (v := .tuple #[.int .i64 0, .bool false]) (by simp [results, Tryd.results17, go_sem]) rfl ⟨by rw [HN.out]; rfl, B1⟩

theorem Sx.opt_some {x : Option Int} {n : Int} (h : n = x.getD 0 ∧ true = x.isSome) : x = some n := by
  obtain ⟨h1, h2⟩ := h
  cases x with
  | none => cases h2
  | some k => rw [h1]; rfl
set_option maxRecDepth 100000 in
set_option maxHeartbeats 4000000 in
theorem impl_ParseSetting (t : ByteArray) (w : World) (ht : t.size ≤ 1048576) (hE : Env w) :
    Calls Tryd.prog 7 #[.string t] w fun e w' => Sx.ParseR t e ∧ Below w.heap.size w w' := by
  obtain ⟨_, _, _, mx, hmx⟩ := id hE
  have B1 : Below w.heap.size w (w.alloc (.cells #[.int .i64 0, .int .i64 0, .int .i64 0] 23)) := (Below.refl _ _).alloc (Nat.le_refl _) _
  have R1 := Blk.new w 23 #[.int .i64 0, .int .i64 0, .int .i64 0]
  have hm1 : (w.alloc (.cells #[.int .i64 0, .int .i64 0, .int .i64 0] 23)).cell? ⟨0, 0, none⟩ = some (.int .i64 mx) := cell_keep B1 hmx
  have CS := fun (wx : World) (h : wx.cell? ⟨0, 0, none⟩ = some (.int .i64 mx)) => Tryd.strings_Split t Sx.sp mx wx (by omega) h (by decide)
  have HM := hide hm1
  clear hmx hm1
  by_cases hc : Lib.countB t Sx.sp = 2
  · have hlen := Lib.splitB_all Sx.sp (by decide) 0 2 t hc
    rw [hc] at CS
    obtain ⟨f0, f1, f2, h3⟩ : ∃ f0 f1 f2, Lib.splitB Sx.sp 0 2 t = [f0, f1, f2] := by
      rcases hs : Lib.splitB Sx.sp 0 2 t with _ | ⟨a, _ | ⟨b, _ | ⟨c, _ | ⟨d, r⟩⟩⟩⟩ <;> rw [hs] at hlen <;> simp at hlen
      exact ⟨a, b, c, rfl⟩
    rw [h3] at CS
    have CS : Hid (∀ wx : World, wx.cell? ⟨0, 0, none⟩ = some (.int .i64 mx) → Calls Tryd.prog 16 #[.string t, .string Sx.sp] wx fun e w' => e = .returned (.slice (some ⟨wx.heap.size, 0, none⟩) 3 3) ∧ w' = wx.alloc (.cells #[.string f0, .string f1, .string f2] 9)) := hide CS
    have hsz := congrArg ByteArray.size (Sx.three_join h3)
    rw [str_size] at hsz
    simp only [List.length_append, List.length_cons, Sx.len_bytes] at hsz
    obtain ⟨n1, b1, H1⟩ : ∃ n1 b1, n1 = (Sx.numR f1).getD 0 ∧ b1 = (Sx.numR f1).isSome := ⟨_, _, rfl, rfl⟩
    obtain ⟨n2, b2, H2⟩ : ∃ n2 b2, n2 = (Sx.numR f2).getD 0 ∧ b2 = (Sx.numR f2).isSome := ⟨_, _, rfl, rfl⟩
    have C1 := hide (fun (wx : World) (h : Env wx) => by have := impl_parseNumber f1 wx (by omega) h; rwa [← H1.1, ← H1.2] at this)
    have C2 := hide (fun (wx : World) (h : Env wx) => by have := impl_parseNumber f2 wx (by omega) h; rwa [← H2.1, ← H2.2] at this)
    have HH1 := hide H1
    have HH2 := hide H2
    clear H1 H2
    have H3 := hide h3
    clear h3 hlen hc hsz
    have B2 : Below w.heap.size w ((w.alloc (.cells #[.int .i64 0, .int .i64 0, .int .i64 0] 23)).alloc (.cells #[.string f0, .string f1, .string f2] 9)) := B1.alloc B1.size _
    have B3 : Below w.heap.size w (((w.alloc (.cells #[.int .i64 0, .int .i64 0, .int .i64 0] 23)).alloc (.cells #[.string f0, .string f1, .string f2] 9)).alloc (.cells #[.int .i64 0, .int .i64 0, .int .i64 0] 23)) := B2.alloc B2.size _
    have R2 := R1.alloc (.cells #[.string f0, .string f1, .string f2] 9)
    have F2 : Blk ((w.alloc (.cells #[.int .i64 0, .int .i64 0, .int .i64 0] 23)).alloc (.cells #[.string f0, .string f1, .string f2] 9)) (w.heap.size + 1) 9 #[.string f0, .string f1, .string f2] := by
      have := Blk.new (w.alloc (.cells #[.int .i64 0, .int .i64 0, .int .i64 0] 23)) 9 #[.string f0, .string f1, .string f2]
      rwa [World.size_alloc] at this
    have R3 := R2.alloc (.cells #[.int .i64 0, .int .i64 0, .int .i64 0] 23)
    have F3 := F2.alloc (.cells #[.int .i64 0, .int .i64 0, .int .i64 0] 23)
    have K3 : Blk (((w.alloc (.cells #[.int .i64 0, .int .i64 0, .int .i64 0] 23)).alloc (.cells #[.string f0, .string f1, .string f2] 9)).alloc (.cells #[.int .i64 0, .int .i64 0, .int .i64 0] 23)) (w.heap.size + 1 + 1) 23 #[.int .i64 0, .int .i64 0, .int .i64 0] := by
      have := Blk.new ((w.alloc (.cells #[.int .i64 0, .int .i64 0, .int .i64 0] 23)).alloc (.cells #[.string f0, .string f1, .string f2] 9)) 23 #[.int .i64 0, .int .i64 0, .int .i64 0]
      rwa [World.size_alloc, World.size_alloc] at this
    clear B1 R1
    have e0 : (w.alloc (.cells #[.int .i64 0, .int .i64 0, .int .i64 0] 23)).heap.size = w.heap.size + 1 := World.size_alloc _ _
    go_enter Tryd.func7, Tryd.ntmps7
    go_wp2_with fail
    refine ((unhide CS) _ HM.out).mono ?_; rintro e wz ⟨rfl, rfl⟩
    clear CS HM
    by_cases h0 : f0 = str [108, 111, 119]
    · have et : (f0.toList == [108, 111, 119]) = true := Sx.text_yes h0
      have H0 := hide (show f0 = str (Sx.preK 0) from h0)
      clear h0
      have K3X := K3
      have F3X := F3
      clear B3 R3 F3 K3
      have B4 : Below w.heap.size w (((w.alloc (.cells #[.int .i64 0, .int .i64 0, .int .i64 0] 23)).alloc (.cells #[.string f0, .string f1, .string f2] 9)).alloc (.cells #[.int .i64 0, .int .i64 0, .int .i64 0] 23)) := B2.alloc B2.size _
      have R4 := R2.alloc (.cells #[.int .i64 0, .int .i64 0, .int .i64 0] 23)
      have F4 := F2.alloc (.cells #[.int .i64 0, .int .i64 0, .int .i64 0] 23)
      have K4 : Blk (((w.alloc (.cells #[.int .i64 0, .int .i64 0, .int .i64 0] 23)).alloc (.cells #[.string f0, .string f1, .string f2] 9)).alloc (.cells #[.int .i64 0, .int .i64 0, .int .i64 0] 23)) (w.heap.size + 1 + 1) 23 #[.int .i64 0, .int .i64 0, .int .i64 0] := by
        have := Blk.new ((w.alloc (.cells #[.int .i64 0, .int .i64 0, .int .i64 0] 23)).alloc (.cells #[.string f0, .string f1, .string f2] 9)) 23 #[.int .i64 0, .int .i64 0, .int .i64 0]
        rwa [World.size_alloc, World.size_alloc] at this
      clear B2 R2 F2
      have a0 : (((w.alloc (.cells #[.int .i64 0, .int .i64 0, .int .i64 0] 23)).alloc (.cells #[.string f0, .string f1, .string f2] 9)).alloc (.cells #[.int .i64 0, .int .i64 0, .int .i64 0] 23)).cell? ⟨(w.heap.size + 1 + 1), 0, none⟩ = some (.int .i64 0) := K3X.cell 0
      have a1 : (((w.alloc (.cells #[.int .i64 0, .int .i64 0, .int .i64 0] 23)).alloc (.cells #[.string f0, .string f1, .string f2] 9)).alloc (.cells #[.int .i64 0, .int .i64 0, .int .i64 0] 23)).cell? ⟨(w.heap.size + 1 + 1), 1, none⟩ = some (.int .i64 0) := K3X.cell 1
      have a2 : (((w.alloc (.cells #[.int .i64 0, .int .i64 0, .int .i64 0] 23)).alloc (.cells #[.string f0, .string f1, .string f2] 9)).alloc (.cells #[.int .i64 0, .int .i64 0, .int .i64 0] 23)).cell? ⟨(w.heap.size + 1 + 1), 2, none⟩ = some (.int .i64 0) := K3X.cell 2
      have fa0 := K3X.frozen 0
      have fa1 := K3X.frozen 1
      have fa2 := K3X.frozen 2
      have b0 : (((w.alloc (.cells #[.int .i64 0, .int .i64 0, .int .i64 0] 23)).alloc (.cells #[.string f0, .string f1, .string f2] 9)).alloc (.cells #[.int .i64 0, .int .i64 0, .int .i64 0] 23)).cell? ⟨(w.heap.size + 1), 0, none⟩ = some (.string f0) := F3X.cell 0
      have b1 : (((w.alloc (.cells #[.int .i64 0, .int .i64 0, .int .i64 0] 23)).alloc (.cells #[.string f0, .string f1, .string f2] 9)).alloc (.cells #[.int .i64 0, .int .i64 0, .int .i64 0] 23)).cell? ⟨(w.heap.size + 1), 1, none⟩ = some (.string f1) := F3X.cell 1
      have b2 : (((w.alloc (.cells #[.int .i64 0, .int .i64 0, .int .i64 0] 23)).alloc (.cells #[.string f0, .string f1, .string f2] 9)).alloc (.cells #[.int .i64 0, .int .i64 0, .int .i64 0] 23)).cell? ⟨(w.heap.size + 1), 2, none⟩ = some (.string f2) := F3X.cell 2
      clear K3X F3X
      go_wp2_with fail
      refine ((unhide C1) _ (hE.below B4 (rfl : 0 = 0))).mono ?_; rintro e w5 ⟨rfl, hb5⟩
      clear a0 a1 a2 fa0 fa1 fa2 b0 b1 b2
      have R5 := R4.below hb5 R4.lt
      have F5 := F4.below hb5 F4.lt
      have K5 := K4.below hb5 K4.lt
      have B5 := below_next (Nat.le_refl _) B4 hb5
      clear R4 F4 K4 B4 hb5
      have a0 : w5.cell? ⟨(w.heap.size + 1 + 1), 0, none⟩ = some (.int .i64 0) := K5.cell 0
      have a1 : w5.cell? ⟨(w.heap.size + 1 + 1), 1, none⟩ = some (.int .i64 0) := K5.cell 1
      have a2 : w5.cell? ⟨(w.heap.size + 1 + 1), 2, none⟩ = some (.int .i64 0) := K5.cell 2
      have fa0 := K5.frozen 0
      have fa1 := K5.frozen 1
      have fa2 := K5.frozen 2
      have b0 : w5.cell? ⟨(w.heap.size + 1), 0, none⟩ = some (.string f0) := F5.cell 0
      have b1 : w5.cell? ⟨(w.heap.size + 1), 1, none⟩ = some (.string f1) := F5.cell 1
      have b2 : w5.cell? ⟨(w.heap.size + 1), 2, none⟩ = some (.string f2) := F5.cell 2
      have K6 : Blk (w5.setCell ⟨(w.heap.size + 1 + 1), 1, none⟩ (.int .i64 n1)) (w.heap.size + 1 + 1) 23 #[.int .i64 0, .int .i64 n1, .int .i64 0] := K5.set_ 1 (.int .i64 n1)
      have R6 := R5.far (p := ⟨(w.heap.size + 1 + 1), 1, none⟩) (by simp; omega) (.int .i64 n1)
      have B6 := B5.setCell (p := ⟨(w.heap.size + 1 + 1), 1, none⟩) (by simp; omega) (.int .i64 n1)
      clear K5 R5 F5 B5
      go_wp2_with fail
      refine ((unhide C2) _ (hE.below B6 (rfl : 0 = 0))).mono ?_; rintro e w7 ⟨rfl, hb7⟩
      clear a0 a1 a2 fa0 fa1 fa2 b0 b1 b2
      have R7 := R6.below hb7 R6.lt
      have K7 := K6.below hb7 K6.lt
      have B7 := below_next (Nat.le_refl _) B6 hb7
      clear R6 K6 B6 hb7
      have a0 : w7.cell? ⟨(w.heap.size + 1 + 1), 0, none⟩ = some (.int .i64 0) := K7.cell 0
      have a1 : w7.cell? ⟨(w.heap.size + 1 + 1), 1, none⟩ = some (.int .i64 n1) := K7.cell 1
      have a2 : w7.cell? ⟨(w.heap.size + 1 + 1), 2, none⟩ = some (.int .i64 0) := K7.cell 2
      have fa0 := K7.frozen 0
      have fa1 := K7.frozen 1
      have fa2 := K7.frozen 2
      have K8 : Blk (w7.setCell ⟨(w.heap.size + 1 + 1), 2, none⟩ (.int .i64 n2)) (w.heap.size + 1 + 1) 23 #[.int .i64 0, .int .i64 n1, .int .i64 n2] := K7.set_ 2 (.int .i64 n2)
      have R8 := R7.far (p := ⟨(w.heap.size + 1 + 1), 2, none⟩) (by simp; omega) (.int .i64 n2)
      have B8 := B7.setCell (p := ⟨(w.heap.size + 1 + 1), 2, none⟩) (by simp; omega) (.int .i64 n2)
      clear K7 R7 B7
      cases b1
      · clear C1 C2
        have HX := hide (show ∀ o' l' m' : Int, Sx.setOK o' l' m' = true → str (Sx.fmtL o' l' m') ≠ t from fun o' l' m' hk ht => by
          obtain ⟨_, g1, g2, h1, h2, h3⟩ := Sx.parse_parts hk ht
          rw [H3.out] at h1
          simp only [List.cons.injEq, and_true] at h1
          have e1 := HH1.out.2
          rw [h1.2.1, h2] at e1
          cases e1)
        have r0 : (w7.setCell ⟨(w.heap.size + 1 + 1), 2, none⟩ (.int .i64 n2)).cell? ⟨w.heap.size, 0, none⟩ = some (.int .i64 0) := R8.cell 0
        have r1 : (w7.setCell ⟨(w.heap.size + 1 + 1), 2, none⟩ (.int .i64 n2)).cell? ⟨w.heap.size, 1, none⟩ = some (.int .i64 0) := R8.cell 1
        have r2 : (w7.setCell ⟨(w.heap.size + 1 + 1), 2, none⟩ (.int .i64 n2)).cell? ⟨w.heap.size, 2, none⟩ = some (.int .i64 0) := R8.cell 2
        have fr0 := R8.frozen 0
        have fr1 := R8.frozen 1
        have fr2 := R8.frozen 2
        go_wp2_with fail
        have q := blk3_set R8 (.int .i64 0) (.int .i64 0) (.int .i64 0)
        have q0 := q.cell 0
        have q1 := q.cell 1
        have q2 := q.cell 2
        exact bodyPost_ret (v := .tuple #[.agg #[.int .i64 0, .int .i64 0, .int .i64 0], .bool false]) (by simp [results, Tryd.results7, go_sem, q0, q1, q2]) rfl ⟨.inr ⟨HX.out, rfl⟩, below_set3' B8 (Nat.le_refl _) _ _ _⟩
      · cases b2
        · have HX := hide (show ∀ o' l' m' : Int, Sx.setOK o' l' m' = true → str (Sx.fmtL o' l' m') ≠ t from fun o' l' m' hk ht => by
            obtain ⟨_, g1, g2, h1, h2, h3⟩ := Sx.parse_parts hk ht
            rw [H3.out] at h1
            simp only [List.cons.injEq, and_true] at h1
            have e1 := HH2.out.2
            rw [h1.2.2, h3] at e1
            cases e1)
          have r0 : (w7.setCell ⟨(w.heap.size + 1 + 1), 2, none⟩ (.int .i64 n2)).cell? ⟨w.heap.size, 0, none⟩ = some (.int .i64 0) := R8.cell 0
          have r1 : (w7.setCell ⟨(w.heap.size + 1 + 1), 2, none⟩ (.int .i64 n2)).cell? ⟨w.heap.size, 1, none⟩ = some (.int .i64 0) := R8.cell 1
          have r2 : (w7.setCell ⟨(w.heap.size + 1 + 1), 2, none⟩ (.int .i64 n2)).cell? ⟨w.heap.size, 2, none⟩ = some (.int .i64 0) := R8.cell 2
          have fr0 := R8.frozen 0
          have fr1 := R8.frozen 1
          have fr2 := R8.frozen 2
          go_wp2_with fail
          have q := blk3_set R8 (.int .i64 0) (.int .i64 0) (.int .i64 0)
          have q0 := q.cell 0
          have q1 := q.cell 1
          have q2 := q.cell 2
          exact bodyPost_ret (v := .tuple #[.agg #[.int .i64 0, .int .i64 0, .int .i64 0], .bool false]) (by simp [results, Tryd.results7, go_sem, q0, q1, q2]) rfl ⟨.inr ⟨HX.out, rfl⟩, below_set3' B8 (Nat.le_refl _) _ _ _⟩
        · have E1 := hide (Sx.opt_some HH1.out)
          have E2 := hide (Sx.opt_some HH2.out)
          have CV := fun wx => impl_SettingValid 0 n1 n2 wx
          cases hok : Sx.setOK 0 n1 n2
          · rw [hok] at CV
            have CV := hide CV
            have HX := hide (show ∀ o' l' m' : Int, Sx.setOK o' l' m' = true → str (Sx.fmtL o' l' m') ≠ t from fun o' l' m' hk ht => by
              obtain ⟨_, g1, g2, h1, h2, h3⟩ := Sx.parse_parts hk ht
              rw [H3.out] at h1
              simp only [List.cons.injEq, and_true] at h1
              rw [← h1.2.1, E1.out] at h2
              rw [← h1.2.2, E2.out] at h3
              injection h2 with h2
              injection h3 with h3
              have h0 : str (Sx.preK 0) = str (Sx.preK o') := H0.out.symm.trans h1.1
              have ho := Sx.pre_inj (o := 0) (by omega) (Sx.setOK_od hk) (congrArg (fun s : ByteArray => s.data.toList) h0)
              rw [← ho, ← h2, ← h3, hok] at hk
              cases hk)
            clear hok
            have k0 : (w7.setCell ⟨(w.heap.size + 1 + 1), 2, none⟩ (.int .i64 n2)).cell? ⟨(w.heap.size + 1 + 1), 0, none⟩ = some (.int .i64 0) := K8.cell 0
            have k1 : (w7.setCell ⟨(w.heap.size + 1 + 1), 2, none⟩ (.int .i64 n2)).cell? ⟨(w.heap.size + 1 + 1), 1, none⟩ = some (.int .i64 n1) := K8.cell 1
            have k2 : (w7.setCell ⟨(w.heap.size + 1 + 1), 2, none⟩ (.int .i64 n2)).cell? ⟨(w.heap.size + 1 + 1), 2, none⟩ = some (.int .i64 n2) := K8.cell 2
            go_wp2_with fail
            refine ((unhide CV) _).mono ?_; rintro e w9 ⟨rfl, hb9⟩
            clear k0 k1 k2 a0 a1 a2 fa0 fa1 fa2
            have R9 := R8.below hb9 R8.lt
            have B9 := below_next (Nat.le_refl _) B8 hb9
            clear R8 B8 hb9
            have r0 : w9.cell? ⟨w.heap.size, 0, none⟩ = some (.int .i64 0) := R9.cell 0
            have r1 : w9.cell? ⟨w.heap.size, 1, none⟩ = some (.int .i64 0) := R9.cell 1
            have r2 : w9.cell? ⟨w.heap.size, 2, none⟩ = some (.int .i64 0) := R9.cell 2
            have fr0 := R9.frozen 0
            have fr1 := R9.frozen 1
            have fr2 := R9.frozen 2
            go_wp2_with fail
            have q := blk3_set R9 (.int .i64 0) (.int .i64 0) (.int .i64 0)
            have q0 := q.cell 0
            have q1 := q.cell 1
            have q2 := q.cell 2
            exact bodyPost_ret (v := .tuple #[.agg #[.int .i64 0, .int .i64 0, .int .i64 0], .bool false]) (by simp [results, Tryd.results7, go_sem, q0, q1, q2]) rfl ⟨.inr ⟨HX.out, rfl⟩, below_set3' B9 (Nat.le_refl _) _ _ _⟩
          · rw [hok] at CV
            have CV := hide CV
            have HY := hide (show str (Sx.fmtL 0 n1 n2) = t from Sx.parse_yes (o := 0) (f1 := f1) (f2 := f2) (by rw [H3.out, H0.out]) E1.out E2.out hok)
            have HOK := hide hok
            clear hok
            have k0 : (w7.setCell ⟨(w.heap.size + 1 + 1), 2, none⟩ (.int .i64 n2)).cell? ⟨(w.heap.size + 1 + 1), 0, none⟩ = some (.int .i64 0) := K8.cell 0
            have k1 : (w7.setCell ⟨(w.heap.size + 1 + 1), 2, none⟩ (.int .i64 n2)).cell? ⟨(w.heap.size + 1 + 1), 1, none⟩ = some (.int .i64 n1) := K8.cell 1
            have k2 : (w7.setCell ⟨(w.heap.size + 1 + 1), 2, none⟩ (.int .i64 n2)).cell? ⟨(w.heap.size + 1 + 1), 2, none⟩ = some (.int .i64 n2) := K8.cell 2
            go_wp2_with fail
            refine ((unhide CV) _).mono ?_; rintro e w9 ⟨rfl, hb9⟩
            clear k0 k1 k2 a0 a1 a2 fa0 fa1 fa2
            have R9 := R8.below hb9 R8.lt
            have K9 := K8.below hb9 K8.lt
            have B9 := below_next (Nat.le_refl _) B8 hb9
            clear R8 K8 B8 hb9
            have k0 : w9.cell? ⟨(w.heap.size + 1 + 1), 0, none⟩ = some (.int .i64 0) := K9.cell 0
            have k1 : w9.cell? ⟨(w.heap.size + 1 + 1), 1, none⟩ = some (.int .i64 n1) := K9.cell 1
            have k2 : w9.cell? ⟨(w.heap.size + 1 + 1), 2, none⟩ = some (.int .i64 n2) := K9.cell 2
            have r0 : w9.cell? ⟨w.heap.size, 0, none⟩ = some (.int .i64 0) := R9.cell 0
            have r1 : w9.cell? ⟨w.heap.size, 1, none⟩ = some (.int .i64 0) := R9.cell 1
            have r2 : w9.cell? ⟨w.heap.size, 2, none⟩ = some (.int .i64 0) := R9.cell 2
            have fr0 := R9.frozen 0
            have fr1 := R9.frozen 1
            have fr2 := R9.frozen 2
            go_wp2_with fail
            have q := blk3_set R9 (.int .i64 0) (.int .i64 n1) (.int .i64 n2)
            have q0 := q.cell 0
            have q1 := q.cell 1
            have q2 := q.cell 2
            exact bodyPost_ret (v := .tuple #[.agg #[.int .i64 0, .int .i64 n1, .int .i64 n2], .bool true]) (by simp [results, Tryd.results7, go_sem, q0, q1, q2]) rfl ⟨.inl ⟨0, n1, n2, HOK.out, HY.out, rfl⟩, below_set3' B9 (Nat.le_refl _) _ _ _⟩
    · have et : (f0.toList == [108, 111, 119]) = false := Sx.text_no h0
      have H0n := hide h0
      by_cases h1 : f0 = str [104, 105, 103, 104]
      · have et1 : (f0.toList == [104, 105, 103, 104]) = true := Sx.text_yes h1
        have H0 := hide (show f0 = str (Sx.preK 1) from h1)
        clear h0 h1
        have K3X := K3
        have F3X := F3
        clear B3 R3 F3 K3
        have B4 : Below w.heap.size w (((w.alloc (.cells #[.int .i64 0, .int .i64 0, .int .i64 0] 23)).alloc (.cells #[.string f0, .string f1, .string f2] 9)).alloc (.cells #[.int .i64 1, .int .i64 0, .int .i64 0] 23)) := B2.alloc B2.size _
        have R4 := R2.alloc (.cells #[.int .i64 1, .int .i64 0, .int .i64 0] 23)
        have F4 := F2.alloc (.cells #[.int .i64 1, .int .i64 0, .int .i64 0] 23)
        have K4 : Blk (((w.alloc (.cells #[.int .i64 0, .int .i64 0, .int .i64 0] 23)).alloc (.cells #[.string f0, .string f1, .string f2] 9)).alloc (.cells #[.int .i64 1, .int .i64 0, .int .i64 0] 23)) (w.heap.size + 1 + 1) 23 #[.int .i64 1, .int .i64 0, .int .i64 0] := by
          have := Blk.new ((w.alloc (.cells #[.int .i64 0, .int .i64 0, .int .i64 0] 23)).alloc (.cells #[.string f0, .string f1, .string f2] 9)) 23 #[.int .i64 1, .int .i64 0, .int .i64 0]
          rwa [World.size_alloc, World.size_alloc] at this
        clear B2 R2 F2
        have a0 : (((w.alloc (.cells #[.int .i64 0, .int .i64 0, .int .i64 0] 23)).alloc (.cells #[.string f0, .string f1, .string f2] 9)).alloc (.cells #[.int .i64 0, .int .i64 0, .int .i64 0] 23)).cell? ⟨(w.heap.size + 1 + 1), 0, none⟩ = some (.int .i64 0) := K3X.cell 0
        have a1 : (((w.alloc (.cells #[.int .i64 0, .int .i64 0, .int .i64 0] 23)).alloc (.cells #[.string f0, .string f1, .string f2] 9)).alloc (.cells #[.int .i64 0, .int .i64 0, .int .i64 0] 23)).cell? ⟨(w.heap.size + 1 + 1), 1, none⟩ = some (.int .i64 0) := K3X.cell 1
        have a2 : (((w.alloc (.cells #[.int .i64 0, .int .i64 0, .int .i64 0] 23)).alloc (.cells #[.string f0, .string f1, .string f2] 9)).alloc (.cells #[.int .i64 0, .int .i64 0, .int .i64 0] 23)).cell? ⟨(w.heap.size + 1 + 1), 2, none⟩ = some (.int .i64 0) := K3X.cell 2
        have fa0 := K3X.frozen 0
        have fa1 := K3X.frozen 1
        have fa2 := K3X.frozen 2
        have b0 : (((w.alloc (.cells #[.int .i64 0, .int .i64 0, .int .i64 0] 23)).alloc (.cells #[.string f0, .string f1, .string f2] 9)).alloc (.cells #[.int .i64 0, .int .i64 0, .int .i64 0] 23)).cell? ⟨(w.heap.size + 1), 0, none⟩ = some (.string f0) := F3X.cell 0
        have b1 : (((w.alloc (.cells #[.int .i64 0, .int .i64 0, .int .i64 0] 23)).alloc (.cells #[.string f0, .string f1, .string f2] 9)).alloc (.cells #[.int .i64 0, .int .i64 0, .int .i64 0] 23)).cell? ⟨(w.heap.size + 1), 1, none⟩ = some (.string f1) := F3X.cell 1
        have b2 : (((w.alloc (.cells #[.int .i64 0, .int .i64 0, .int .i64 0] 23)).alloc (.cells #[.string f0, .string f1, .string f2] 9)).alloc (.cells #[.int .i64 0, .int .i64 0, .int .i64 0] 23)).cell? ⟨(w.heap.size + 1), 2, none⟩ = some (.string f2) := F3X.cell 2
        clear K3X F3X
        go_wp2_with fail
        refine ((unhide C1) _ (hE.below B4 (rfl : 0 = 0))).mono ?_; rintro e w5 ⟨rfl, hb5⟩
        clear a0 a1 a2 fa0 fa1 fa2 b0 b1 b2
        have R5 := R4.below hb5 R4.lt
        have F5 := F4.below hb5 F4.lt
        have K5 := K4.below hb5 K4.lt
        have B5 := below_next (Nat.le_refl _) B4 hb5
        clear R4 F4 K4 B4 hb5
        have a0 : w5.cell? ⟨(w.heap.size + 1 + 1), 0, none⟩ = some (.int .i64 1) := K5.cell 0
        have a1 : w5.cell? ⟨(w.heap.size + 1 + 1), 1, none⟩ = some (.int .i64 0) := K5.cell 1
        have a2 : w5.cell? ⟨(w.heap.size + 1 + 1), 2, none⟩ = some (.int .i64 0) := K5.cell 2
        have fa0 := K5.frozen 0
        have fa1 := K5.frozen 1
        have fa2 := K5.frozen 2
        have b0 : w5.cell? ⟨(w.heap.size + 1), 0, none⟩ = some (.string f0) := F5.cell 0
        have b1 : w5.cell? ⟨(w.heap.size + 1), 1, none⟩ = some (.string f1) := F5.cell 1
        have b2 : w5.cell? ⟨(w.heap.size + 1), 2, none⟩ = some (.string f2) := F5.cell 2
        have K6 : Blk (w5.setCell ⟨(w.heap.size + 1 + 1), 1, none⟩ (.int .i64 n1)) (w.heap.size + 1 + 1) 23 #[.int .i64 1, .int .i64 n1, .int .i64 0] := K5.set_ 1 (.int .i64 n1)
        have R6 := R5.far (p := ⟨(w.heap.size + 1 + 1), 1, none⟩) (by simp; omega) (.int .i64 n1)
        have B6 := B5.setCell (p := ⟨(w.heap.size + 1 + 1), 1, none⟩) (by simp; omega) (.int .i64 n1)
        clear K5 R5 F5 B5
        go_wp2_with fail
        refine ((unhide C2) _ (hE.below B6 (rfl : 0 = 0))).mono ?_; rintro e w7 ⟨rfl, hb7⟩
        clear a0 a1 a2 fa0 fa1 fa2 b0 b1 b2
        have R7 := R6.below hb7 R6.lt
        have K7 := K6.below hb7 K6.lt
        have B7 := below_next (Nat.le_refl _) B6 hb7
        clear R6 K6 B6 hb7
        have a0 : w7.cell? ⟨(w.heap.size + 1 + 1), 0, none⟩ = some (.int .i64 1) := K7.cell 0
        have a1 : w7.cell? ⟨(w.heap.size + 1 + 1), 1, none⟩ = some (.int .i64 n1) := K7.cell 1
        have a2 : w7.cell? ⟨(w.heap.size + 1 + 1), 2, none⟩ = some (.int .i64 0) := K7.cell 2
        have fa0 := K7.frozen 0
        have fa1 := K7.frozen 1
        have fa2 := K7.frozen 2
        have K8 : Blk (w7.setCell ⟨(w.heap.size + 1 + 1), 2, none⟩ (.int .i64 n2)) (w.heap.size + 1 + 1) 23 #[.int .i64 1, .int .i64 n1, .int .i64 n2] := K7.set_ 2 (.int .i64 n2)
        have R8 := R7.far (p := ⟨(w.heap.size + 1 + 1), 2, none⟩) (by simp; omega) (.int .i64 n2)
        have B8 := B7.setCell (p := ⟨(w.heap.size + 1 + 1), 2, none⟩) (by simp; omega) (.int .i64 n2)
        clear K7 R7 B7
        cases b1
        · clear C1 C2
          have HX := hide (show ∀ o' l' m' : Int, Sx.setOK o' l' m' = true → str (Sx.fmtL o' l' m') ≠ t from fun o' l' m' hk ht => by
            obtain ⟨_, g1, g2, h1, h2, h3⟩ := Sx.parse_parts hk ht
            rw [H3.out] at h1
            simp only [List.cons.injEq, and_true] at h1
            have e1 := HH1.out.2
            rw [h1.2.1, h2] at e1
            cases e1)
          have r0 : (w7.setCell ⟨(w.heap.size + 1 + 1), 2, none⟩ (.int .i64 n2)).cell? ⟨w.heap.size, 0, none⟩ = some (.int .i64 0) := R8.cell 0
          have r1 : (w7.setCell ⟨(w.heap.size + 1 + 1), 2, none⟩ (.int .i64 n2)).cell? ⟨w.heap.size, 1, none⟩ = some (.int .i64 0) := R8.cell 1
          have r2 : (w7.setCell ⟨(w.heap.size + 1 + 1), 2, none⟩ (.int .i64 n2)).cell? ⟨w.heap.size, 2, none⟩ = some (.int .i64 0) := R8.cell 2
          have fr0 := R8.frozen 0
          have fr1 := R8.frozen 1
          have fr2 := R8.frozen 2
          go_wp2_with fail
          have q := blk3_set R8 (.int .i64 0) (.int .i64 0) (.int .i64 0)
          have q0 := q.cell 0
          have q1 := q.cell 1
          have q2 := q.cell 2
          exact bodyPost_ret (v := .tuple #[.agg #[.int .i64 0, .int .i64 0, .int .i64 0], .bool false]) (by simp [results, Tryd.results7, go_sem, q0, q1, q2]) rfl ⟨.inr ⟨HX.out, rfl⟩, below_set3' B8 (Nat.le_refl _) _ _ _⟩
        · cases b2
          · have HX := hide (show ∀ o' l' m' : Int, Sx.setOK o' l' m' = true → str (Sx.fmtL o' l' m') ≠ t from fun o' l' m' hk ht => by
              obtain ⟨_, g1, g2, h1, h2, h3⟩ := Sx.parse_parts hk ht
              rw [H3.out] at h1
              simp only [List.cons.injEq, and_true] at h1
              have e1 := HH2.out.2
              rw [h1.2.2, h3] at e1
              cases e1)
            have r0 : (w7.setCell ⟨(w.heap.size + 1 + 1), 2, none⟩ (.int .i64 n2)).cell? ⟨w.heap.size, 0, none⟩ = some (.int .i64 0) := R8.cell 0
            have r1 : (w7.setCell ⟨(w.heap.size + 1 + 1), 2, none⟩ (.int .i64 n2)).cell? ⟨w.heap.size, 1, none⟩ = some (.int .i64 0) := R8.cell 1
            have r2 : (w7.setCell ⟨(w.heap.size + 1 + 1), 2, none⟩ (.int .i64 n2)).cell? ⟨w.heap.size, 2, none⟩ = some (.int .i64 0) := R8.cell 2
            have fr0 := R8.frozen 0
            have fr1 := R8.frozen 1
            have fr2 := R8.frozen 2
            go_wp2_with fail
            have q := blk3_set R8 (.int .i64 0) (.int .i64 0) (.int .i64 0)
            have q0 := q.cell 0
            have q1 := q.cell 1
            have q2 := q.cell 2
            exact bodyPost_ret (v := .tuple #[.agg #[.int .i64 0, .int .i64 0, .int .i64 0], .bool false]) (by simp [results, Tryd.results7, go_sem, q0, q1, q2]) rfl ⟨.inr ⟨HX.out, rfl⟩, below_set3' B8 (Nat.le_refl _) _ _ _⟩
          · have E1 := hide (Sx.opt_some HH1.out)
            have E2 := hide (Sx.opt_some HH2.out)
            have CV := fun wx => impl_SettingValid 1 n1 n2 wx
            cases hok : Sx.setOK 1 n1 n2
            · rw [hok] at CV
              have CV := hide CV
              have HX := hide (show ∀ o' l' m' : Int, Sx.setOK o' l' m' = true → str (Sx.fmtL o' l' m') ≠ t from fun o' l' m' hk ht => by
                obtain ⟨_, g1, g2, h1, h2, h3⟩ := Sx.parse_parts hk ht
                rw [H3.out] at h1
                simp only [List.cons.injEq, and_true] at h1
                rw [← h1.2.1, E1.out] at h2
                rw [← h1.2.2, E2.out] at h3
                injection h2 with h2
                injection h3 with h3
                have h0 : str (Sx.preK 1) = str (Sx.preK o') := H0.out.symm.trans h1.1
                have ho := Sx.pre_inj (o := 1) (by omega) (Sx.setOK_od hk) (congrArg (fun s : ByteArray => s.data.toList) h0)
                rw [← ho, ← h2, ← h3, hok] at hk
                cases hk)
              clear hok
              have k0 : (w7.setCell ⟨(w.heap.size + 1 + 1), 2, none⟩ (.int .i64 n2)).cell? ⟨(w.heap.size + 1 + 1), 0, none⟩ = some (.int .i64 1) := K8.cell 0
              have k1 : (w7.setCell ⟨(w.heap.size + 1 + 1), 2, none⟩ (.int .i64 n2)).cell? ⟨(w.heap.size + 1 + 1), 1, none⟩ = some (.int .i64 n1) := K8.cell 1
              have k2 : (w7.setCell ⟨(w.heap.size + 1 + 1), 2, none⟩ (.int .i64 n2)).cell? ⟨(w.heap.size + 1 + 1), 2, none⟩ = some (.int .i64 n2) := K8.cell 2
              go_wp2_with fail
              refine ((unhide CV) _).mono ?_; rintro e w9 ⟨rfl, hb9⟩
              clear k0 k1 k2 a0 a1 a2 fa0 fa1 fa2
              have R9 := R8.below hb9 R8.lt
              have B9 := below_next (Nat.le_refl _) B8 hb9
              clear R8 B8 hb9
              have r0 : w9.cell? ⟨w.heap.size, 0, none⟩ = some (.int .i64 0) := R9.cell 0
              have r1 : w9.cell? ⟨w.heap.size, 1, none⟩ = some (.int .i64 0) := R9.cell 1
              have r2 : w9.cell? ⟨w.heap.size, 2, none⟩ = some (.int .i64 0) := R9.cell 2
              have fr0 := R9.frozen 0
              have fr1 := R9.frozen 1
              have fr2 := R9.frozen 2
              go_wp2_with fail
              have q := blk3_set R9 (.int .i64 0) (.int .i64 0) (.int .i64 0)
              have q0 := q.cell 0
              have q1 := q.cell 1
              have q2 := q.cell 2
              exact bodyPost_ret (v := .tuple #[.agg #[.int .i64 0, .int .i64 0, .int .i64 0], .bool false]) (by simp [results, Tryd.results7, go_sem, q0, q1, q2]) rfl ⟨.inr ⟨HX.out, rfl⟩, below_set3' B9 (Nat.le_refl _) _ _ _⟩
            · rw [hok] at CV
              have CV := hide CV
              have HY := hide (show str (Sx.fmtL 1 n1 n2) = t from Sx.parse_yes (o := 1) (f1 := f1) (f2 := f2) (by rw [H3.out, H0.out]) E1.out E2.out hok)
              have HOK := hide hok
              clear hok
              have k0 : (w7.setCell ⟨(w.heap.size + 1 + 1), 2, none⟩ (.int .i64 n2)).cell? ⟨(w.heap.size + 1 + 1), 0, none⟩ = some (.int .i64 1) := K8.cell 0
              have k1 : (w7.setCell ⟨(w.heap.size + 1 + 1), 2, none⟩ (.int .i64 n2)).cell? ⟨(w.heap.size + 1 + 1), 1, none⟩ = some (.int .i64 n1) := K8.cell 1
              have k2 : (w7.setCell ⟨(w.heap.size + 1 + 1), 2, none⟩ (.int .i64 n2)).cell? ⟨(w.heap.size + 1 + 1), 2, none⟩ = some (.int .i64 n2) := K8.cell 2
              go_wp2_with fail
              refine ((unhide CV) _).mono ?_; rintro e w9 ⟨rfl, hb9⟩
              clear k0 k1 k2 a0 a1 a2 fa0 fa1 fa2
              have R9 := R8.below hb9 R8.lt
              have K9 := K8.below hb9 K8.lt
              have B9 := below_next (Nat.le_refl _) B8 hb9
              clear R8 K8 B8 hb9
              have k0 : w9.cell? ⟨(w.heap.size + 1 + 1), 0, none⟩ = some (.int .i64 1) := K9.cell 0
              have k1 : w9.cell? ⟨(w.heap.size + 1 + 1), 1, none⟩ = some (.int .i64 n1) := K9.cell 1
              have k2 : w9.cell? ⟨(w.heap.size + 1 + 1), 2, none⟩ = some (.int .i64 n2) := K9.cell 2
              have r0 : w9.cell? ⟨w.heap.size, 0, none⟩ = some (.int .i64 0) := R9.cell 0
              have r1 : w9.cell? ⟨w.heap.size, 1, none⟩ = some (.int .i64 0) := R9.cell 1
              have r2 : w9.cell? ⟨w.heap.size, 2, none⟩ = some (.int .i64 0) := R9.cell 2
              have fr0 := R9.frozen 0
              have fr1 := R9.frozen 1
              have fr2 := R9.frozen 2
              go_wp2_with fail
              have q := blk3_set R9 (.int .i64 1) (.int .i64 n1) (.int .i64 n2)
              have q0 := q.cell 0
              have q1 := q.cell 1
              have q2 := q.cell 2
              exact bodyPost_ret (v := .tuple #[.agg #[.int .i64 1, .int .i64 n1, .int .i64 n2], .bool true]) (by simp [results, Tryd.results7, go_sem, q0, q1, q2]) rfl ⟨.inl ⟨1, n1, n2, HOK.out, HY.out, rfl⟩, below_set3' B9 (Nat.le_refl _) _ _ _⟩
      · have et1 : (f0.toList == [104, 105, 103, 104]) = false := Sx.text_no h1
        have HX := hide (show ∀ o' l' m' : Int, Sx.setOK o' l' m' = true → str (Sx.fmtL o' l' m') ≠ t from fun o' l' m' hk ht => by
          obtain ⟨_, g1, g2, h5, h6, h7⟩ := Sx.parse_parts hk ht
          rw [H3.out] at h5
          simp only [List.cons.injEq, and_true] at h5
          rcases Sx.setOK_od hk with rfl | rfl
          · exact h0 h5.1
          · exact h1 h5.1)
        clear h0 h1
        have b0 : (((w.alloc (.cells #[.int .i64 0, .int .i64 0, .int .i64 0] 23)).alloc (.cells #[.string f0, .string f1, .string f2] 9)).alloc (.cells #[.int .i64 0, .int .i64 0, .int .i64 0] 23)).cell? ⟨(w.heap.size + 1), 0, none⟩ = some (.string f0) := F3.cell 0
        have b1 : (((w.alloc (.cells #[.int .i64 0, .int .i64 0, .int .i64 0] 23)).alloc (.cells #[.string f0, .string f1, .string f2] 9)).alloc (.cells #[.int .i64 0, .int .i64 0, .int .i64 0] 23)).cell? ⟨(w.heap.size + 1), 1, none⟩ = some (.string f1) := F3.cell 1
        have b2 : (((w.alloc (.cells #[.int .i64 0, .int .i64 0, .int .i64 0] 23)).alloc (.cells #[.string f0, .string f1, .string f2] 9)).alloc (.cells #[.int .i64 0, .int .i64 0, .int .i64 0] 23)).cell? ⟨(w.heap.size + 1), 2, none⟩ = some (.string f2) := F3.cell 2
        have r0 : (((w.alloc (.cells #[.int .i64 0, .int .i64 0, .int .i64 0] 23)).alloc (.cells #[.string f0, .string f1, .string f2] 9)).alloc (.cells #[.int .i64 0, .int .i64 0, .int .i64 0] 23)).cell? ⟨w.heap.size, 0, none⟩ = some (.int .i64 0) := R3.cell 0
        have r1 : (((w.alloc (.cells #[.int .i64 0, .int .i64 0, .int .i64 0] 23)).alloc (.cells #[.string f0, .string f1, .string f2] 9)).alloc (.cells #[.int .i64 0, .int .i64 0, .int .i64 0] 23)).cell? ⟨w.heap.size, 1, none⟩ = some (.int .i64 0) := R3.cell 1
        have r2 : (((w.alloc (.cells #[.int .i64 0, .int .i64 0, .int .i64 0] 23)).alloc (.cells #[.string f0, .string f1, .string f2] 9)).alloc (.cells #[.int .i64 0, .int .i64 0, .int .i64 0] 23)).cell? ⟨w.heap.size, 2, none⟩ = some (.int .i64 0) := R3.cell 2
        have fr0 := R3.frozen 0
        have fr1 := R3.frozen 1
        have fr2 := R3.frozen 2
        go_wp2_with fail
        have q0 := R3.cell 0
        have q1 := R3.cell 1
        have q2 := R3.cell 2
        exact bodyPost_ret (v := .tuple #[.agg #[.int .i64 0, .int .i64 0, .int .i64 0], .bool false]) (by simp [results, Tryd.results7, go_sem]) rfl ⟨.inr ⟨HX.out, rfl⟩, B3⟩
  · have HX := hide (show ∀ o' l' m' : Int, Sx.setOK o' l' m' = true → str (Sx.fmtL o' l' m') ≠ t from fun o' l' m' hk ht => hc (Sx.parse_parts hk ht).1)
    obtain ⟨cn, hcn⟩ : ∃ x, x = Lib.countB t Sx.sp := ⟨_, rfl⟩
    obtain ⟨fs, hfs⟩ : ∃ x, x = ((Lib.splitB Sx.sp 0 (Lib.countB t Sx.sp) t).map Value.string).toArray := ⟨_, rfl⟩
    rw [← hfs, ← hcn] at CS
    rw [← hcn] at hc
    have CS := hide CS
    clear hfs hcn
    have en : ((((cn + 1 : Nat) : Int)) == 3) = false := by rw [beq_eq_false_iff_ne]; omega
    have en2 : (((cn : Int) + 1) == 3) = false := by rw [beq_eq_false_iff_ne]; omega
    have hc2 : ¬ (cn : Int) + 1 = 3 := by omega
    have R2 := R1.alloc (.cells fs 9)
    have B2 : Below w.heap.size w ((w.alloc (.cells #[.int .i64 0, .int .i64 0, .int .i64 0] 23)).alloc (.cells fs 9)) := B1.alloc B1.size _
    clear R1 B1 hc
    go_enter Tryd.func7, Tryd.ntmps7
    go_wp2_with fail
    refine ((unhide CS) _ HM.out).mono ?_; rintro e wz ⟨rfl, rfl⟩
    have r0 : ((w.alloc (.cells #[.int .i64 0, .int .i64 0, .int .i64 0] 23)).alloc (.cells fs 9)).cell? ⟨w.heap.size, 0, none⟩ = some (.int .i64 0) := R2.cell 0
    have r1 : ((w.alloc (.cells #[.int .i64 0, .int .i64 0, .int .i64 0] 23)).alloc (.cells fs 9)).cell? ⟨w.heap.size, 1, none⟩ = some (.int .i64 0) := R2.cell 1
    have r2 : ((w.alloc (.cells #[.int .i64 0, .int .i64 0, .int .i64 0] 23)).alloc (.cells fs 9)).cell? ⟨w.heap.size, 2, none⟩ = some (.int .i64 0) := R2.cell 2
    have fr0 := R2.frozen 0
    have fr1 := R2.frozen 1
    have fr2 := R2.frozen 2
    go_wp2_with fail
    have q0 := R2.cell 0
    have q1 := R2.cell 1
    have q2 := R2.cell 2
    exact bodyPost_ret (v := .tuple #[.agg #[.int .i64 0, .int .i64 0, .int .i64 0], .bool false]) (by simp [results, Tryd.results7, go_sem]) rfl ⟨.inr ⟨HX.out, rfl⟩, B2⟩

end Go.Proofs.YthdmnpjdpfeleaaDoor

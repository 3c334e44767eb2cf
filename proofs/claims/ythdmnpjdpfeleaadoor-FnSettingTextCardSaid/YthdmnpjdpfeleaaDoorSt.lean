/- The walks of the draws of a setting and of its text. Conditions: a slice of at most 1048576 bytes. -/
import Derived.Test.YthdmnpjdpfeleaaDoorDs
import Derived.Test.YthdmnpjdpfeleaaDoorPs1
import Derived.Deep.RegionLaw
namespace Go.Proofs.YthdmnpjdpfeleaaDoor
open Go.RowKit

set_option maxRecDepth 100000 in
set_option maxHeartbeats 1000000 in
theorem rd_of (B g p b m c : Nat) (Pr : ByteArray → Prop) (w : World) (h : Rd w B g p) (hp : p ≤ 10000000) (hm : 1 ≤ m) (hm2 : m ≤ 1000) (hbg : b ≠ g)
    (hcell : ∀ i, i < m → ∃ x : ByteArray, Pr x ∧ w.cell? ⟨b, i, none⟩ = some (.string x)) :
    Calls Tryd.prog 25 #[.pointer (some ⟨g, 0, none⟩), .slice (some ⟨b, 0, none⟩) m c] w fun e w' => ∃ x : ByteArray, e = .returned (.string x) ∧ Pr x ∧ Rd w' B g (p + 1) ∧ w.grownBy w' (some g) := by
  have HP := hide hcell
  clear hcell
  go_enter Tryd.func25, Tryd.ntmps25
  go_wp2_with fail
  refine (rd_pick B g p m w h hp (by omega) (by omega)).mono ?_
  rintro e w1 ⟨v, rfl, v0, v1, _, hr, hg⟩
  obtain ⟨V, rfl⟩ := Int.eq_ofNat_of_zero_le v0
  have v2 : V < m := by have := v1 (by omega); omega
  obtain ⟨x, px, hx⟩ := HP.out V v2
  have hx1 := hg.cell hx (by simpa using hbg)
  clear v1 hx
  go_wp2_with fail
  go_ret
  exact ⟨x, rfl, px, hr, hg⟩
theorem strs_new (w : World) (t : TypeId) (Q : ByteArray → Prop) (l : List ByteArray) (h : ∀ x ∈ l, Q x) : ∀ i, i < l.length → ∃ x : ByteArray, Q x ∧ (w.alloc (.cells (l.map Value.string).toArray t)).cell? ⟨w.heap.size, i, none⟩ = some (.string x) := fun i hi => by
  refine ⟨l[i], h _ (List.getElem_mem _), ?_⟩
  have hb : Blk (w.alloc (.cells (l.map Value.string).toArray t)) w.heap.size t (l.map Value.string).toArray := Blk.new w t _
  rw [hb.cell]
  simp [hi]
theorem of_list_drew {B g p c : Nat} {Q : ByteArray → Prop} {w : World} (l : List ByteArray) (t : TypeId) (h : Rd w B g p) (hp : p ≤ 10000000) (hl : 1 ≤ l.length) (hl2 : l.length ≤ 1000) (hQ : ∀ x ∈ l, Q x) :
    Calls Tryd.prog 25 #[.pointer (some ⟨g, 0, none⟩), .slice (some ⟨w.heap.size, 0, none⟩) l.length c] ((w.alloc (.cells (l.map Value.string).toArray t)).drew) fun e w' => ∃ x : ByteArray, e = .returned (.string x) ∧ Q x ∧ Rd w' B g (p + 1) ∧ w.grownBy w' (some g) := by
  have hr : Rd ((w.alloc (.cells (l.map Value.string).toArray t)).drew) B g p := (h.below ((Below.refl _ _).alloc (Nat.le_refl _) _) : Rd (w.alloc (.cells (l.map Value.string).toArray t)) B g p)
  refine (rd_of B g p w.heap.size l.length c Q _ hr hp hl hl2 (by have := h.lt; omega) fun i hi => strs_new w t Q l hQ i hi).mono ?_
  rintro e w' ⟨x, rfl, hx, h1, h2⟩
  exact ⟨x, rfl, hx, h1, ⟨h2.os, h2.tape, h2.output, Nat.le_trans (by simp) h2.size, fun k hk hne => (h2.block k (by simp; omega) hne).trans (Below.heap_alloc w _ k hk)⟩⟩
theorem Sx.fmt_size {o l m : Int} (h : Sx.setOK o l m = true) : 1 ≤ (Sx.fmtS o l m).size ∧ (Sx.fmtS o l m).size ≤ 20 := by
  have hbd := Sx.setOK_bd h
  have h1 := Sx.dec_len l.toNat (by omega)
  have h2 := Sx.dec_len m.toNat (by omega)
  rw [Sx.fmt_yes h, str_size, Sx.fmtL]
  simp only [List.length_append, List.length_cons, List.length_nil]
  split <;> simp only [List.length_cons, List.length_nil] <;> omega

set_option maxRecDepth 100000 in
set_option maxHeartbeats 2000000 in
theorem draw_ParseSetting (A : Option Addr) (n c : Nat) (w : World) (h : Src w w.heap.size A n) (hn : n ≤ 1048576) (hc : n ≤ c) (hcm : c ≤ maxLen) :
    Calls Tryd.prog 14 #[.slice A n c] w fun e w' => ∃ s : ByteArray, e = .returned (.string s) ∧ s.size ≤ 100 ∧ Below w.heap.size w w' := by
  unfold maxLen at hcm
  have HO := hide (rd_open A n c w h hn hc hcm)
  clear h
  go_enter Tryd.func14, Tryd.ntmps14
  go_wp2_with fail
  refine (unhide HO).mono ?_; rintro e w1 ⟨g, rfl, hr1, hb1⟩
  clear HO
  go_wp2_with fail
  refine (rd_some _ g 0 w1 hr1 (by omega)).mono ?_; rintro e w2 ⟨o, l, m, rfl, hok, p2, hp2, hr2, hg2⟩
  have hb2 := draw_next (Nat.le_refl _) hb1 hr1 hg2
  clear hb1 hr1 hg2
  have HT := hide (Sx.fmt_size hok)
  clear hok
  have C := hide (spec_FormatSetting o l m w2)
  go_wp2_with fail
  refine (unhide C).mono ?_; rintro e w3 ⟨rfl, hb3⟩
  clear C
  have ht := HT.out
  generalize Sx.fmtS o l m = t at ht
  have hr3 := hr2.below hb3
  have hb3 := below_next (Nat.le_refl _) hb2 hb3
  clear hb2 hr2 HT
  go_wp2_with fail
  refine (rd_pick _ g p2 2 w3 hr3 (by omega) (by omega) (by omega)).mono ?_; rintro e w4 ⟨v, rfl, v0, v1, _, hr4, hg4⟩
  have hb4 := draw_next (Nat.le_refl _) hb3 hr3 hg4
  clear hb3 hr3 hg4 v1
  by_cases h0 : v = 0
  · subst h0
    clear v0
    go_wp2_with fail
    go_ret
    exact ⟨t, rfl, by omega, hb4⟩
  · have h00 : (v == 0) = false := by simpa using h0
    clear v0 h0
    have C := hide (rd_pick _ g (p2 + 1) (t.size : Int) w4 hr4 (by omega) (by omega) (by omega))
    go_wp2_with fail
    refine (unhide C).mono ?_; rintro e w5 ⟨k, rfl, k0, k1, _, hr5, hg5⟩
    clear C
    have hb5 := draw_next (Nat.le_refl _) hb4 hr4 hg5
    have k2 := k1 (by omega)
    obtain ⟨V, rfl⟩ := Int.eq_ofNat_of_zero_le k0
    clear k1 hb4 hr4 hg5
    have hV : V ≤ t.size := by omega
    have CO := hide (of_list_drew [{ data := #[] }, { data := #[49] }, { data := #[32] }, { data := #[48] }, { data := #[119] }] 9 hr5 (by omega) (by decide) (by decide) (c := 5) (Q := fun x => x.size ≤ 2) (by intro x hx; simp at hx; rcases hx with rfl | rfl | rfl | rfl | rfl <;> decide))
    have QQ : ∀ q : Int, 0 ≤ q → q < 2 → IntKind.i64.wrap ((V : Int) + q) = (V : Int) + q ∧ (0 : Int) ≤ (V : Int) + q ∧ (V : Int) + q ≤ (t.size : Int) ∧ ((V : Int) + q).toNat ≤ t.size := fun q h1 h2 => ⟨IntWalk.i64_in _ (by omega), by omega, by omega, by omega⟩
    go_wp2_with fail
    go_region_with (first
      | (go_at_call 25; refine (unhide CO).mono ?_; rintro e w6 ⟨x, rfl, hx, hr6, hg6⟩; have hs1 : (t.extract 0 V).size + x.size ≤ 9223372036854775807 := by rw [ByteArray.size_extract]; omega)
      | (go_at_call 24; refine (rd_pick _ g _ 2 _ hr6 (by omega) (by omega) (by omega)).mono ?_; rintro e w7 ⟨q, rfl, q0, q1, _, hr7, hg7⟩; obtain ⟨q4, q5, q6, q7⟩ := QQ q q0 (q1 (by omega))))
    all_goals go_wp2
    all_goals first
      | omega
      | (go_ret; exact ⟨_, rfl, by simp only [ByteArray.size_append, ByteArray.size_extract]; omega, draw_next (Nat.le_refl _) hb5 hr5 (grown_trans' hg6 hg7)⟩)

set_option maxRecDepth 100000 in
set_option maxHeartbeats 1000000 in
theorem draw_FormatSetting (A : Option Addr) (n c : Nat) (w : World) (h : Src w w.heap.size A n) (hn : n ≤ 1048576) (hc : n ≤ c) (hcm : c ≤ maxLen) :
    Calls Tryd.prog 12 #[.slice A n c] w (DrawSet w) := by
  have HD := hide (draw_SettingValid A n c _ (h.next ((Below.refl _ _).alloc (Nat.le_refl _) (.cells #[.int .i64 0, .int .i64 0, .int .i64 0] 23))) hn hc hcm)
  have K0 := Blk.new w 23 #[.int .i64 0, .int .i64 0, .int .i64 0]
  have B0 : Below w.heap.size w (w.alloc (.cells #[.int .i64 0, .int .i64 0, .int .i64 0] 23)) := (Below.refl _ _).alloc (Nat.le_refl _) _
  clear h
  go_enter Tryd.func12, Tryd.ntmps12
  go_wp2_with fail
  refine (unhide HD).mono ?_; rintro e w1 ⟨o, l, m, rfl, hf, hb1⟩
  have K1 := K0.below hb1 K0.lt
  have B1 := below_next (Nat.le_refl _) B0 hb1
  clear HD K0 B0 hb1
  have c0 : w1.cell? ⟨w.heap.size, 0, none⟩ = some (.int .i64 0) := K1.cell 0
  have c1 : w1.cell? ⟨w.heap.size, 1, none⟩ = some (.int .i64 0) := K1.cell 1
  have c2 : w1.cell? ⟨w.heap.size, 2, none⟩ = some (.int .i64 0) := K1.cell 2
  have f0 := K1.frozen 0
  have f1 := K1.frozen 1
  have f2 := K1.frozen 2
  go_wp2_with fail
  have q := blk3_set K1 (.int .i64 o) (.int .i64 l) (.int .i64 m)
  have q0 := q.cell 0
  have q1 := q.cell 1
  have q2 := q.cell 2
  exact bodyPost_ret (v := sv o l m) (by simp [results, Tryd.results12, go_sem, q0, q1, q2]) rfl ⟨o, l, m, rfl, hf, below_set3' B1 (Nat.le_refl _) _ _ _⟩
end Go.Proofs.YthdmnpjdpfeleaaDoor

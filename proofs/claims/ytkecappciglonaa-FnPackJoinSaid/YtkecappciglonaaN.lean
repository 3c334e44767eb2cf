/- The walks of l1Pack, PackBits of the reference, TurnBytes. Conditions: each argument is a value of its type; l1Pack takes bits alone. -/
import Derived.Test.YtkecappciglonaaM
import Derived.Test.YtkecappciglonaaH
namespace Go.Proofs.Ytkecappciglonaa
open Go.RowKit

theorem bvals_set (A : List UInt8) (b : UInt8) (n : Nat) : (bvals (A ++ List.replicate (n + 1) 0)).set A.length (.int .u8 (b.toNat : Int)) = bvals (A ++ [b] ++ List.replicate n 0) := by
  rw [bvals_append, List.set_append_right _ _ (by rw [bvals_length]; exact Nat.le_refl _), bvals_length, Nat.sub_self, bvals_append, bvals_append, List.replicate_succ, List.append_assoc]
  rfl
theorem bvals_zero (n : Nat) : (madeCells (Value.int .u8 0).cells (n * 1)).toList = bvals (List.replicate n 0) := by
  have : (Value.int IntKind.u8 0).cells = #[.int .u8 0] := rfl
  rw [this, toList_madeCells_one, Nat.mul_one, bvals, List.map_replicate]
  rfl
/-- The k-th cell of a row of bytes. -/
theorem bvals_get (A : List UInt8) (n : Nat) : (bvals (A ++ List.replicate (n + 1) 0))[A.length]? = some (.int .u8 0) := by
  rw [bvals, List.getElem?_map, List.getElem?_append_right (Nat.le_refl _), Nat.sub_self, List.replicate_succ]
  rfl

theorem row_step {w : World} {base : Nat} {e : TypeId} {v : Value} {m k n : Nat} {A : List UInt8} {b : UInt8} {x : Int} (hk : A.length = k) (hx : x = (b.toNat : Int))
    (h : w.ownsRow base e 1 v m ((bvals (A ++ List.replicate (n + 1) 0)).set k (.int .u8 x))) : w.ownsRow base e 1 v m (bvals (A ++ [b] ++ List.replicate n 0)) := by
  subst hk hx
  rwa [bvals_set] at h
theorem ext_data (l : List UInt8) (a b : Nat) : ((str l).extract a b).data.toList = (l.drop a).take (b - a) := Lib.extract_data (str l) a b

set_option maxRecDepth 100000 in
set_option maxHeartbeats 1000000 in
theorem spec_l1Pack (o : Int) (s : ByteArray) (w : World) (ho : o = 0 ∨ o = 1) (hs : s.size ≤ 40000) (ha : s.data.toList.all Sx.isBit = true) :
    Calls Try.prog 98 #[.int .i64 o, .string s] w fun e w' => e = .returned (.string (str (Sx.packL (Sx.hiOf o) s.data.toList))) ∧ Below w.heap.size w w' := by
  obtain ⟨i0, hi0, hz0, hz1, hz2⟩ := info_parts try_info8
  have hl := hide (Sx.len_bytes s)
  have HZ := hide (show (str (Sx.padL s.data.toList)).size = 8 * ((s.size + 7) / 8) by rw [str_size, Sx.padL_length, Sx.len_bytes])
  have hzle : (str (Sx.padL s.data.toList)).size ≤ 40008 := by have := HZ.out; omega
  have HA := hide (Sx.padL_all ha)
  clear ha
  go_enter Try.func98, Try.ntmps98
  go_wp2_with (first
    | (go_at_call 103; refine (spec_l1Pad _ _ (by omega)).mono ?_; rintro e w' ⟨rfl, rfl⟩)
    | (at_make; refine wpList_make_full _ rfl (.tmp 12) (.tmp 12) 22 rfl w.heap.size 5 i0 (.int .u8 0) 1 Try.underlying22 hi0 hz0 hz1 .i64 .i64 _ _ ((s.size + 7) / 8) rfl rfl (by have := HZ.out; omega) (by have := HZ.out; omega) (by rw [hz2]; omega) (by simp only [maxLen]; omega) (Nat.le_refl _) ?_; intro w1 hown1 hgrow1))
  rw [bvals_zero] at hown1
  have hb1 : Below w.heap.size w w1 := (Below.refl _ _).grown hgrow1 (Nat.le_refl _) (by simp)
  go_loopw [7] (fun i wr => ∃ k : Nat, k ≤ (s.size + 7) / 8 ∧ i = .int .i64 k ∧ wr.ownsRow w.heap.size 5 1 (.slice (some ⟨w.heap.size, 0, none⟩) ((s.size + 7) / 8) ((s.size + 7) / 8)) ((s.size + 7) / 8) (bvals (Sx.packN (Sx.hiOf o) s.data.toList k ++ List.replicate ((s.size + 7) / 8 - k) 0)) ∧ Below w.heap.size w wr) (fun i _ => (s.size + 7) / 8 - (intOf i).toNat)
  case atStart => exact ⟨0, Nat.zero_le _, rfl, hown1, hb1⟩
  case round =>
    obtain ⟨k, hk, rfl, hrow, hbw⟩ := hrel
    by_cases hlt : k < (s.size + 7) / 8
    · have HR := hide (show (s.size + 7) / 8 - k = ((s.size + 7) / 8 - (k + 1)) + 1 by omega)
      have HK := hide (Sx.packN_length (Sx.hiOf o) s.data.toList k)
      rw [HR.out] at hrow
      have hcell : wr.cell? ⟨w.heap.size, k, none⟩ = some (.int .u8 0) := by
        rw [hrow.cellAt k (by omega)]
        have := bvals_get (Sx.packN (Sx.hiOf o) s.data.toList k) ((s.size + 7) / 8 - (k + 1))
        rwa [HK.out] at this
      have hfroz : wr.frozen? ⟨w.heap.size, k, none⟩ = false := hrow.frozenAt k
      have hst := hide (hrow.stored k (.int .u8 (Sx.numOf (Sx.hiOf o) (Sx.chunk s.data.toList k) : Int)))
      have hn := Sx.num_lt (Sx.hiOf o) s.data.toList k
      have h8 : 8 * k + 8 ≤ (str (Sx.padL s.data.toList)).size := by have := HZ.out; omega
      have HC := hide (show ((str (Sx.padL s.data.toList)).extract (8 * k) (8 * k + 8)).data.toList = Sx.chunk s.data.toList k by
        rw [ext_data, show 8 * k + 8 - 8 * k = 8 by omega]; exact Sx.padL_chunk _ _ (by rw [hl.out]; exact hlt))
      have HCA := hide (show (Sx.chunk s.data.toList k).all Sx.isBit = true by
        rw [← HC.out, ext_data]
        exact List.all_eq_true.2 fun x hx => List.all_eq_true.1 HA.out x (List.mem_of_mem_drop (List.mem_of_mem_take hx)))
      have C : ∀ wx, Calls Try.prog 94 #[.int .i64 o, .string ((str (Sx.padL s.data.toList)).extract (8 * k) (8 * k + 8))] wx fun e w' => e = .returned (.int .i64 (Sx.numOf (Sx.hiOf o) (Sx.chunk s.data.toList k))) ∧ wx = w' := fun wx => by
        have := spec_l1Number o ((str (Sx.padL s.data.toList)).extract (8 * k) (8 * k + 8)) wx ho (by rw [← Sx.len_bytes, HC.out, Sx.chunk_length]; omega) (by rw [HC.out]; exact HCA.out)
        rwa [HC.out] at this
      have C := hide C
      have HP := hide (Sx.packN_succ (Sx.hiOf o) s.data.toList k)
      go_wp2_with (go_at_call 94; refine (unhide C _).mono ?_; rintro e w' ⟨rfl, rfl⟩)
      go_roundw
      case rel =>
        refine ⟨k + 1, by omega, by go_num, ?_, hbw.setCell (Nat.le_refl _) _⟩
        rw [HP.out]
        exact row_step HK.out (Sx.byte_num hn).symm hst.out.1
      case measure => simp [intOf]; omega
    · have HE := hide (show Sx.packN (Sx.hiOf o) s.data.toList k ++ List.replicate ((s.size + 7) / 8 - k) 0 = Sx.packL (Sx.hiOf o) s.data.toList by
        have hk' : k = (s.size + 7) / 8 := by omega
        rw [hk', Nat.sub_self, Sx.packL, hl.out]; simp)
      rw [HE.out] at hrow
      have hcv := run_own_string (P := Try.prog) wr 22 9 5 Try.underlying22 Try.underlying5 Try.underlying9 hrow
      go_wp2_with fail
      go_ret
      exact ⟨rfl, hbw⟩

set_option maxRecDepth 100000 in
set_option maxHeartbeats 1000000 in
theorem spec_PackBits (o : Int) (s : ByteArray) (w : World) (hm : s.size ≤ 9223372036854775807) :
    Calls Try.prog 64 #[.int .i64 o, .string s] w fun e w' => e = .returned (.tuple #[.string (Sx.packS o s), .bool (Sx.packOK o s)]) ∧ Below w.heap.size w w' := by
  by_cases h0 : Sx.ordOK o = true
  · by_cases h1 : Sx.bitsValid s = true
    · have HO := hide (Sx.pack_mk h0 h1)
      have hy := hide (Sx.pack_yes HO.out)
      have ho := hide (Sx.ord_of h0)
      have hl := Sx.valid_len h1
      have ha := hide (Sx.valid_all h1)
      go_enter Try.func64, Try.ntmps64
      go_wp2_with (first
        | (go_at_call 78; refine (spec_l1Order _ _).mono ?_; rintro e w' ⟨rfl, rfl⟩)
        | (go_at_call 100; refine (spec_BitsValid _ _ hm).mono ?_; rintro e w' ⟨rfl, rfl⟩)
        | (go_at_call 98; refine (spec_l1Pack _ _ _ ho.out (by omega) ha.out).mono ?_; rintro e w1 ⟨rfl, hb1⟩))
      go_ret2
      exact ⟨ret2 (vstr hy.out.symm) (vbool HO.out.symm), hb1⟩
    · have h1 : Sx.bitsValid s = false := by simpa using h1
      have HO := hide (Sx.pack_val (o := o) h1)
      have hy := hide (Sx.pack_no HO.out)
      go_enter Try.func64, Try.ntmps64
      go_wp2_with (first
        | (go_at_call 78; refine (spec_l1Order _ _).mono ?_; rintro e w' ⟨rfl, rfl⟩)
        | (go_at_call 100; refine (spec_BitsValid _ _ hm).mono ?_; rintro e w' ⟨rfl, rfl⟩))
      go_ret2
      exact ⟨ret2 (vstr hy.out.symm) (vbool HO.out.symm), Below.refl _ _⟩
  · have h0 : Sx.ordOK o = false := by simpa using h0
    have HO := hide (Sx.pack_ord (s := s) h0)
    have hy := hide (Sx.pack_no HO.out)
    go_enter Try.func64, Try.ntmps64
    go_wp2_with (go_at_call 78; refine (spec_l1Order _ _).mono ?_; rintro e w' ⟨rfl, rfl⟩)
    go_ret2
    exact ⟨ret2 (vstr hy.out.symm) (vbool HO.out.symm), Below.refl _ _⟩

/-- TurnBytes. -/
def Sx.rev8 (b : UInt8) : UInt8 := UInt8.ofNat (Sx.numOf true (Sx.cbits false b.toNat 8))
def Sx.turnS (s : ByteArray) : ByteArray := if s.size ≤ 4000 then str (s.data.toList.map Sx.rev8) else str []
theorem Sx.turn_yes {s : ByteArray} (h : s.size ≤ 4000) : Sx.turnS s = str (s.data.toList.map Sx.rev8) := if_pos h
theorem Sx.turn_no {s : ByteArray} (h : ¬ s.size ≤ 4000) : Sx.turnS s = str [] := if_neg h
theorem Sx.chunk_un (hi : Bool) (l : List UInt8) (j : Nat) (h : j < l.length) : Sx.chunk (Sx.unpackL hi l) j = Sx.cbits hi (l[j]).toNat 8 := by
  apply List.ext_getElem
  · rw [Sx.chunk_length, Sx.cbits_length]
  · intro i h1 h2
    rw [Sx.chunk_length] at h1
    have hlt : 8 * j + i < (Sx.unpackL hi l).length := by rw [Sx.unpackL_length]; omega
    rw [Sx.chunk_get h1 hlt, Sx.unpackL_get, Sx.cbits_get _ _ _ _ h1]
    have e1 : (8 * j + i) / 8 = j := by omega
    have e2 : (8 * j + i) % 8 = i := by omega
    simp only [e1, e2]
theorem Sx.pack_un (ha hb : Bool) (l : List UInt8) : Sx.packL hb (Sx.unpackL ha l) = l.map fun b => UInt8.ofNat (Sx.numOf hb (Sx.cbits ha b.toNat 8)) := by
  apply List.ext_getElem
  · rw [Sx.packL_length, Sx.unpackL_length, List.length_map]; omega
  · intro i h1 h2
    rw [List.length_map] at h2
    simp only [Sx.packL, Sx.packN, List.getElem_map, List.getElem_range]
    rw [Sx.chunk_un ha l i h2]

theorem Sx.un_size' (hi : Bool) (s : ByteArray) : (str (Sx.unpackL hi s.data.toList)).size = 8 * s.size := by rw [str_size, Sx.unpackL_length, Sx.len_bytes]

set_option maxRecDepth 100000 in
set_option maxHeartbeats 1000000 in
theorem spec_TurnBytes (s : ByteArray) (w : World) (hm : s.size ≤ 9223372036854775807) :
    Calls Try.prog 55 #[.string s] w fun e w' => e = .returned (.tuple #[.string (Sx.turnS s), .bool (decide (s.size ≤ 4000))]) ∧ Below w.heap.size w w' := by
  by_cases h1 : s.size ≤ 4000
  · have hq := hide (Sx.stream_mk (o := 0) (by decide) h1)
    have hy := hide (show Sx.turnS s = str (Sx.packL true (Sx.unpackL false s.data.toList)) by rw [Sx.turn_yes h1, Sx.pack_un]; rfl)
    have hd := hide (show decide (s.size ≤ 4000) = true from decide_eq_true h1)
    have hz := hide (Sx.un_size' false s)
    go_enter Try.func55, Try.ntmps55
    go_wp2_with (first
      | (go_at_call 72; refine (spec_l1Stream _ _ _ hm).mono ?_; rintro e w' ⟨rfl, rfl⟩; rw [hq.out])
      | (go_at_call 81; refine (spec_l1Unpack _ _ _ (.inl rfl) h1).mono ?_; rintro e w1 ⟨rfl, hb1⟩)
      | (go_at_call 98; refine (spec_l1Pack 1 (str (Sx.unpackL false s.data.toList)) _ (.inr rfl) (by rw [hz.out]; omega) (Sx.unpackL_all _ _)).mono ?_; rintro e w2 ⟨rfl, hb2⟩))
    go_ret2
    exact ⟨ret2 (vstr hy.out.symm) (vbool hd.out.symm), below_next (Nat.le_refl _) hb1 hb2⟩
  · have hq := hide (Sx.stream_len (o := 0) h1)
    have hy := hide (Sx.turn_no h1)
    have hd := hide (show decide (s.size ≤ 4000) = false from decide_eq_false h1)
    go_enter Try.func55, Try.ntmps55
    go_wp2_with (go_at_call 72; refine (spec_l1Stream _ _ _ hm).mono ?_; rintro e w' ⟨rfl, rfl⟩; rw [hq.out])
    go_ret2
    exact ⟨ret2 (vstr hy.out.symm) (vbool hd.out.symm), Below.refl _ _⟩
end Go.Proofs.Ytkecappciglonaa

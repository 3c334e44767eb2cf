/- Plain facts on the heads of codes that can follow each other: no program. Conditions: those that each lemma names. -/
import Derived.Test.YtegfcpdkehgdpaaCx
namespace Go.Proofs.Ytegfcpdkehgdpaa
namespace Sx
/-- The first i codes have been followed: what is known then, the widths and the data. -/
def Pre (o l m b t : Int) (ps : List (Int × Int)) (xs : List Int) (i : Nat) (P : List (Int × Int)) (T : Int) (wsi : List Int) (dsi : List UInt8) : Prop :=
  wk l m b (xs.take i) ps t 0 = some (wsi, dsi) ∧ wsi.length = i ∧ dsi.length ≤ 2000 ∧ (i < xs.length → (∀ ys, wk l m b (xs.take i ++ ys) ps t 0 = wkAcc wsi dsi (wk l m b ys P T dsi.length)) ∧ kOK o l m P b T = true)
theorem pre_zero {o l m b t : Int} {ps : List (Int × Int)} {xs : List Int} (hk : kOK o l m ps b t = true) : Pre o l m b t ps xs 0 ps t [] [] :=
  ⟨rfl, rfl, by simp, fun _ => ⟨fun ys => by rw [acc_nil]; rfl, hk⟩⟩
theorem take_step (xs : List Int) (i : Nat) (h : i < xs.length) : xs.take (i + 1) = xs.take i ++ [xs[i]] := (List.take_append_getElem h).symm
theorem whole (xs : List Int) (i : Nat) (h : i < xs.length) : xs = xs.take i ++ (xs[i] :: xs.drop (i + 1)) := by
  rw [← List.drop_eq_getElem_cons h, List.take_append_drop]
/-- One code more. -/
theorem pre_step {o l m b t : Int} {ps : List (Int × Int)} {xs : List Int} {i : Nat} {P : List (Int × Int)} {T : Int} {wsi ws : List Int} {dsi ds : List UInt8} (h : Pre o l m b t ps xs i P T wsi dsi) (hi : i < xs.length) (hw : wk l m b xs ps t 0 = some (ws, ds)) :
    ws[i]? = some (widthI l m P.length T) ∧
    ((xs[i] = two l + 1 ∧ i + 1 = xs.length ∧ Pre o l m b t ps xs (i + 1) P T (wsi ++ [widthI l m P.length T]) dsi) ∨
     (xs[i] ≠ two l + 1 ∧ goB l m P.length T xs[i] = true ∧ Pre o l m b t ps xs (i + 1) (stepP l m P b T xs[i]) (advT l xs[i]) (wsi ++ [widthI l m P.length T]) (dsi ++ wdOf l P T xs[i]))) := by
  obtain ⟨h1, h2, hd, h3⟩ := h
  obtain ⟨h3, hk⟩ := h3 hi
  have hx : wk l m b xs ps t 0 = wkAcc wsi dsi (wk l m b (xs[i] :: xs.drop (i + 1)) P T dsi.length) := by rw [← h3, ← whole xs i hi]
  rw [hw] at hx
  have hone := h3 [xs[i]]
  rw [← take_step xs i hi] at hone
  have hget : ∀ (v : Int) (us : List Int), (wsi ++ v :: us)[i]? = some v := fun v us => by
    rw [List.getElem?_append_right (by omega), h2, Nat.sub_self]; rfl
  by_cases he : xs[i] = two l + 1
  · by_cases hl : xs.drop (i + 1) = []
    · have hlen : i + 1 = xs.length := by have := List.drop_eq_nil_iff.1 hl; omega
      rw [wk_last he, acc_some, List.append_nil] at hone
      rw [hl, wk_last he, acc_some] at hx
      injection hx with hx
      injection hx with hx _
      refine ⟨by rw [hx]; exact hget _ [], .inl ⟨he, hlen, hone, by simp [h2], hd, fun h => by omega⟩⟩
    · rw [wk_more he hl] at hx; cases hx
  · cases hg : goB l m P.length T xs[i]
    · rw [wk_bad he hg] at hx; cases hx
    · by_cases hln : dsi.length + (wdOf l P T xs[i]).length ≤ 2000
      · rw [wk_go he hg hln, acc_map] at hx
        rw [wk_go he hg hln, acc_map, wk_nil, acc_some, List.append_nil, List.append_nil] at hone
        refine ⟨?_, .inr ⟨he, rfl, hone, by simp [h2], by rw [List.length_append]; exact hln, fun _ => ⟨fun ys => ?_, step_ok hk hg⟩⟩⟩
        · rcases hr : wk l m b (xs.drop (i + 1)) (stepP l m P b T xs[i]) (advT l xs[i]) (dsi.length + (wdOf l P T xs[i]).length) with _ | ⟨a, c⟩
          · rw [hr] at hx; cases hx
          · rw [hr, acc_some] at hx
            injection hx with hx
            injection hx with hx _
            rw [hx, List.append_assoc]
            exact hget _ a
        · rw [take_step xs i hi, List.append_assoc]
          have := h3 ([xs[i]] ++ ys)
          rw [this, List.singleton_append, wk_go he hg hln, acc_map, List.length_append]
      · rw [wk_long he (by omega)] at hx; cases hx
end Sx
end Go.Proofs.Ytegfcpdkehgdpaa

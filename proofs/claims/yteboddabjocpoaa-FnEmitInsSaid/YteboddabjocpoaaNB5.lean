/- The bytes that are drawn for a number's reading. -/
import Derived.Test.YteboddabjocpoaaNB4
set_option linter.all false
namespace Go.Am.Try
open Go Go.Am

section
variable {k : Nat} {H : Heap} {K : V → Heap → Prop}

theorem bytes_app {a b : List Int} (ha : Bytes a) (hb : Bytes b) : Bytes (a ++ b) := fun x hx => (List.mem_append.1 hx).elim (ha x) (hb x)

/-- The end of the draw: a place in what was drawn. -/
theorem draw_at {w : Bool} {code : List Int} (hc : code.length ≤ 1152921504606846976) {H' : Heap} {i h : Int} (hr : row? H' 0 = some (cur w code i h)) (hi : 0 ≤ i) {raw : List Int} (hR : raw.length ≤ 200) {v : V} (hv : lenV false v = some (.i .i64 (raw.length : Int)))
    (hs : ∀ i h, elemsIn true false (H'.set 0 (cur w code i h)) 1 v = some (by_ raw)) (hk : ∀ at_, K (.tup [.tl false 1 (by_ raw), .i .i64 at_]) H) :
    dOpt (lenV false v) fun x34 => dOpt (binV .add x34 (.i .i64 1)) fun x35 => CC (k + 2) 57 [.p 0 3 1 0 0, x35] H' fun x36 H_1 => CC (k + 2) 57 [.p 0 3 1 0 0, .i .i64 20] H_1 fun x38 H_2 =>
      dOpt (binV .quo x38 (.i .i64 19)) fun x39 => dOpt (binV .sub x36 x39) fun x40 => backD g_spec_DrawUnpackNum H K (.tup [v, x40]) H_2 := by
  rw [hv]
  simp only [am, amV, amM, amH, amL, amC, and_self, if_true, if_false, Nat.reduceAdd, Nat.reduceMul, Nat.reduceLeDiff, Nat.reduceLT, Nat.reduceEqDiff, decide_eq_true_eq, Bool.false_eq_true, decide_true, decide_false, cond_true, cond_false, Bool.not_true, Bool.not_false]
  refine l1Below_ok hc hr hi fun x1 i1 h1 hx1 hi1 => ?_
  refine l1Below_ok hc (cur_set hr _ _) hi1 fun x2 i2 h2 hx2 hi2 => ?_
  rw [set_set, bin_quo _ _ _ (by decide)]
  simp only [am, amV, amM, amH, amL, amC, and_self, if_true, if_false, Nat.reduceAdd, Nat.reduceMul, Nat.reduceLeDiff, Nat.reduceLT, Nat.reduceEqDiff, decide_eq_true_eq, Bool.false_eq_true, decide_true, decide_false, cond_true, cond_false, Bool.not_true, Bool.not_false]
  rw [back_seal rfl (v' := .tup [.tl false 1 (by_ raw), .i .i64 (IntKind.i64.wrap (x1 - IntKind.i64.wrap (x2.tdiv 19)))]) (by
    show sealV false true false _ (.tu [.li [.at_], .at_]) _ = _
    simp only [am, amV, amM, amH, amL, amC, and_self, if_true, if_false, Nat.reduceAdd, Nat.reduceMul, Nat.reduceLeDiff, Nat.reduceLT, Nat.reduceEqDiff, decide_eq_true_eq, Bool.false_eq_true, decide_true, decide_false, cond_true, cond_false, Bool.not_true, Bool.not_false, amS, hs, seal_by])]
  exact hk _

/-- A drawn row of bytes, and a place. -/
theorem DrawUnpackNum_ok {w : Bool} {code : List Int} (hc : code.length ≤ 1152921504606846976) (hb : 8192 ≤ k) (hk : ∀ raw at_, Bytes raw → raw.length ≤ 200 → K (.tup [.tl false 1 (by_ raw), .i .i64 at_]) H) : CC (k + 5) 15 [.tl w 1 (by_ code)] H K := by
  rw [c_spec_DrawUnpackNum (x0s := .tl true 1 (by_ code)) _ _ _ (by simp only [am, amV, amM, amH, amL, amC, and_self, if_true, if_false, Nat.reduceAdd, Nat.reduceMul, Nat.reduceLeDiff, Nat.reduceLT, Nat.reduceEqDiff, decide_eq_true_eq, Bool.false_eq_true, decide_true, decide_false, cond_true, cond_false, Bool.not_true, Bool.not_false, amS, seal_by])]
  unfold spec_DrawUnpackNum
  refine l1New_ok hc (by omega) fun h => ?_
  simp only [am, amV, amM, amH, amL, amC, and_self, if_true, if_false, Nat.reduceAdd, Nat.reduceMul, Nat.reduceLeDiff, Nat.reduceLT, Nat.reduceEqDiff, decide_eq_true_eq, Bool.false_eq_true, decide_true, decide_false, cond_true, cond_false, Bool.not_true, Bool.not_false]
  refine l1Below_ok hc (row_0 _ _) (Int.le_refl _) fun x1 i1 h1 hx1 hi1 => ?_
  have hx1 := hx1.2 (by decide)
  simp only [am, amV, amM, amH, amL, amC, and_self, if_true, if_false, Nat.reduceAdd, Nat.reduceMul, Nat.reduceLeDiff, Nat.reduceLT, Nat.reduceEqDiff, decide_eq_true_eq, Bool.false_eq_true, decide_true, decide_false, cond_true, cond_false, Bool.not_true, Bool.not_false]
  rw [w64 (by omega) (by omega)]
  have hne : pack (x1 - 100) ≠ [] := by
    unfold pack
    rw [if_neg (by omega)]
    by_cases hz : zig (x1 - 100) > 127
    · rw [enc_big hz]; simp
    · rw [enc_small hz]; simp
  refine spec_PackNum_ok (by unfold I64; omega) (by omega) ?_
  rw [gV_ne (by simpa [by_] using hne), gH_ne (by simpa [by_] using hne)]
  refine l1DrawNum_ok hc (row_0 _ _) hi1 fun x2 i2 h2 hx2 hi2 => ?_
  simp only [am, amV, amM, amH, amL, amC, and_self, if_true, if_false, Nat.reduceAdd, Nat.reduceMul, Nat.reduceLeDiff, Nat.reduceLT, Nat.reduceEqDiff, decide_eq_true_eq, Bool.false_eq_true, decide_true, decide_false, cond_true, cond_false, Bool.not_true, Bool.not_false]
  refine spec_PackNum_ok hx2 (by omega) ?_
  rw [app_any (es := by_ (pack (x1 - 100))) (by decide) (gH_row (by rfl)) rfl (el_g rfl (.inr rfl)) (by have := pack_len (x1 - 100); have := pack_len x2; unfold Room; simp [by_len]; omega)]
  simp only [am, amV, amM, amH, amL, amC, and_self, if_true, if_false, Nat.reduceAdd, Nat.reduceMul, Nat.reduceLeDiff, Nat.reduceLT, Nat.reduceEqDiff, decide_eq_true_eq, Bool.false_eq_true, decide_true, decide_false, cond_true, cond_false, Bool.not_true, Bool.not_false]
  have r0 := row_keep (R := ⟨5, 1, false, by_ (pack (x1 - 100)) ++ by_ (pack x2)⟩) (r := 1) (s := 0) (by decide) (gH_row (H := [cur true code i2 h2, ⟨5, 1, false, by_ (pack (x1 - 100))⟩]) (T := 5) (z := 1) (es := by_ (pack x2)) (row_0 _ _))
  have r1 := row_set (r := 1) (⟨5, 1, false, by_ (pack (x1 - 100)) ++ by_ (pack x2)⟩ : Row) (gH_row (H := [cur true code i2 h2, ⟨5, 1, false, by_ (pack (x1 - 100))⟩]) (T := 5) (z := 1) (es := by_ (pack x2)) (r := 1) rfl)
  rw [← by_app] at r0 r1 ⊢
  have hB : Bytes (pack (x1 - 100) ++ pack x2) := bytes_app (pack_bytes _) (pack_bytes _)
  have hL0 : (pack (x1 - 100) ++ pack x2).length ≤ 18 := by have := pack_len (x1 - 100); have := pack_len x2; simp; omega
  generalize (gH _ _ _ _).set 1 _ = H2 at r0 r1 ⊢
  generalize pack (x1 - 100) ++ pack x2 = l at r0 r1 hB hL0 ⊢
  refine l1Once_ok hc r0 hi2 fun q i3 h3 hi3 => ?_
  have r0 := row_set (cur true code i3 h3) r0
  have r1 := row_keep (R := cur true code i3 h3) (r := 0) (by decide) r1
  generalize H2.set 0 (cur true code i3 h3) = H3 at r0 r1 ⊢
  clear hne hx1
  have hL : l.length ≤ 21 := by omega
  have fin : ∀ (H' : Heap) (l : List Int) (i h : Int), row? H' 0 = some (cur true code i h) → row? H' 1 = some ⟨5, 1, false, by_ l⟩ → Bytes l → l.length ≤ 21 → 0 ≤ i →
      CC (k + 4) 52 [.p 0 3 1 0 0, .i .i64 12] H' fun x25 H_1 => dIf x25 (fun k2 => dOpt (litV 1 [.i .i64 0] 4 [(0, .i .i64 127), (1, .i .i64 255), (2, .i .i64 0), (3, .i .i64 1)]) fun x27 =>
          CC (k + 4) 53 [.p 0 3 1 0 0, x27] H_1 fun x28 H_2 => dOpt (cvtV .u8 x28) fun x29 => dOpt (litV 1 [.i .u8 0] 10 [(0, .i .u8 255), (1, .i .u8 255), (2, .i .u8 255), (3, .i .u8 255), (4, .i .u8 255), (5, .i .u8 255), (6, .i .u8 255), (7, .i .u8 255), (8, x29), (9, .i .u8 1)]) fun x30 => k2 [x30] H_2)
        (fun k2 => k2 [.rw 1 1 (by_ l).length] H_1) fun s H_2 => dOpt (lenV false (s.headD .un)) fun x34 => dOpt (binV .add x34 (.i .i64 1)) fun x35 => CC (k + 4) 57 [.p 0 3 1 0 0, x35] H_2 fun x36 H_3 => CC (k + 4) 57 [.p 0 3 1 0 0, .i .i64 20] H_3 fun x38 H_4 =>
          dOpt (binV .quo x38 (.i .i64 19)) fun x39 => dOpt (binV .sub x36 x39) fun x40 => backD g_spec_DrawUnpackNum H K (.tup [s.headD .un, x40]) H_4 := by
    intro H' l i h r0 r1 hB hL hi
    refine l1Once_ok hc r0 hi fun q i1 h1 hi1 => ?_
    have r0' := row_set (cur true code i1 h1) r0
    have r1' := row_keep (R := cur true code i1 h1) (r := 0) (by decide) r1
    generalize H'.set 0 (cur true code i1 h1) = H1 at r0' r1' ⊢
    simp only [am, hd_cons]
    split
    · simp only [am, amV, amM, amH, amL, amC, and_self, if_true, if_false, Nat.reduceAdd, Nat.reduceMul, Nat.reduceLeDiff, Nat.reduceLT, Nat.reduceEqDiff, decide_eq_true_eq, Bool.false_eq_true, decide_true, decide_false, cond_true, cond_false, Bool.not_true, Bool.not_false]
      refine l1PickInt_ok (l := [127, 255, 0, 1]) hc r0' hi1 (by decide) fun x i2 h2 hx hi2 => ?_
      have hx' : 0 ≤ x ∧ x ≤ 255 := by simp only [List.mem_cons, List.not_mem_nil, or_false] at hx; omega
      have r0' := row_set (cur true code i2 h2) r0'
      simp only [am, amV, amM, amH, amL, amC, and_self, if_true, if_false, Nat.reduceAdd, Nat.reduceMul, Nat.reduceLeDiff, Nat.reduceLT, Nat.reduceEqDiff, decide_eq_true_eq, Bool.false_eq_true, decide_true, decide_false, cond_true, cond_false, Bool.not_true, Bool.not_false]
      rw [wu8 hx'.1 hx'.2]
      have := draw_at (k := k + 2) (K := K) (H := H) hc r0' hi2 (raw := [255, 255, 255, 255, 255, 255, 255, 255, x, 1]) (by simp) (v := .tl false 1 (by_ [255, 255, 255, 255, 255, 255, 255, 255, x, 1])) (by simp only [am, amV, amM, amH, amL, amC, and_self, if_true, if_false, Nat.reduceAdd, Nat.reduceMul, Nat.reduceLeDiff, Nat.reduceLT, Nat.reduceEqDiff, decide_eq_true_eq, Bool.false_eq_true, decide_true, decide_false, cond_true, cond_false, Bool.not_true, Bool.not_false, by_len]) (fun i h => in_tlf ..) (fun at_ => hk _ _ (by intro y hy; simp at hy; omega) (by simp))
      simp only [am, amV, amM, amH, amL, amC, and_self, if_true, if_false, Nat.reduceAdd, Nat.reduceMul, Nat.reduceLeDiff, Nat.reduceLT, Nat.reduceEqDiff, decide_eq_true_eq, Bool.false_eq_true, decide_true, decide_false, cond_true, cond_false, Bool.not_true, Bool.not_false, by_len] at this ⊢
      exact this
    · have := draw_at (k := k + 2) (K := K) (H := H) hc r0' hi1 (raw := l) (by omega) (v := .rw 1 1 (by_ l).length) (by simp only [am, amV, amM, amH, amL, amC, and_self, if_true, if_false, Nat.reduceAdd, Nat.reduceMul, Nat.reduceLeDiff, Nat.reduceLT, Nat.reduceEqDiff, decide_eq_true_eq, Bool.false_eq_true, decide_true, decide_false, cond_true, cond_false, Bool.not_true, Bool.not_false, by_len]) (fun i h => in_rw (row_keep (by decide) r1') rfl) (fun at_ => hk _ _ hB (by omega))
      exact this
  simp only [am, amV, amM, amH, amL, amC, and_self, if_true, if_false, Nat.reduceAdd, Nat.reduceMul, Nat.reduceLeDiff, Nat.reduceLT, Nat.reduceEqDiff, decide_eq_true_eq, Bool.false_eq_true, decide_true, decide_false, cond_true, cond_false, Bool.not_true, Bool.not_false]
  split
  · refine l1Byte_ok hc r0 hi3 fun x3 i4 h4 hx3 hi4 => ?_
    have r0 := row_set (cur true code i4 h4) r0
    have r1 := row_keep (R := cur true code i4 h4) (r := 0) (by decide) r1
    simp only [am, amV, amM, amH, amL, amC, and_self, if_true, if_false, Nat.reduceAdd, Nat.reduceMul, Nat.reduceLeDiff, Nat.reduceLT, Nat.reduceEqDiff, decide_eq_true_eq, Bool.false_eq_true, decide_true, decide_false, cond_true, cond_false, Bool.not_true, Bool.not_false]
    rw [app_any (by decide) r1 rfl (el_tl ..) (by unfold Room; simp [by_len]; omega), wu8 hx3.1 hx3.2]
    have e : by_ l ++ [[V.i .u8 128], [.i .u8 128], [.i .u8 x3]] = by_ (l ++ [128, 128, x3]) := by simp [by_]
    simp only [dOpt2_some, hd_cons, e]
    have hB : Bytes (l ++ [128, 128, x3]) := bytes_app hB (by intro y hy; simp at hy; omega)
    have f := fin _ _ _ _ (row_keep (R := ⟨5, 1, false, by_ (l ++ [128, 128, x3])⟩) (r := 1) (by decide) r0) (row_set _ r1) hB (by simp; omega) hi4
    simp only [am, amV, amM, amH, amL, amC, and_self, if_true, if_false, Nat.reduceAdd, Nat.reduceMul, Nat.reduceLeDiff, Nat.reduceLT, Nat.reduceEqDiff, decide_eq_true_eq, Bool.false_eq_true, decide_true, decide_false, cond_true, cond_false, Bool.not_true, Bool.not_false] at f ⊢
    exact f
  · have f := fin _ _ _ _ r0 r1 hB hL hi3
    simp only [am, amV, amM, amH, amL, amC, and_self, if_true, if_false, Nat.reduceAdd, Nat.reduceMul, Nat.reduceLeDiff, Nat.reduceLT, Nat.reduceEqDiff, decide_eq_true_eq, Bool.false_eq_true, decide_true, decide_false, cond_true, cond_false, Bool.not_true, Bool.not_false] at f ⊢
    exact f
end
end Go.Am.Try

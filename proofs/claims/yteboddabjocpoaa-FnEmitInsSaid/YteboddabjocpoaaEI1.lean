/- Small parts: a byte's place in a form, homes, what a place of a list has. -/
import Derived.Test.YteboddabjocpoaaNB6
import Derived.Test.YteboddabjocpoaaAm6
set_option linter.all false
namespace Go.Am.Try
open Go Go.Am

section
variable {k : Nat} {H : Heap} {K : V → Heap → Prop}

theorem index_l0 {C : Call1} {N : Nat} {w : Bool} {l : List Int} {v : Int} (hl : l.length ≤ 8192) {k1 : List V → Heap → Prop} {K : V → Heap → Prop} : ∀ (d i n : Nat), l.length - i = d → d < n → i ≤ l.length →
    (dLoop n (slices_Index_byte_byte_l0 C N (.tl w 1 (by_ l)) (.i .u8 v) (.i .i64 (l.length : Int)) k1 K) [.i .i64 i] H = if v ∈ l.drop i then K (.i .i64 ((i + (l.drop i).idxOf v : Nat) : Int)) H else k1 [] H) := by
  intro d
  induction d with
  | zero =>
    intro i n hd hn' hi
    obtain ⟨n, rfl⟩ : ∃ m, n = m + 1 := ⟨n - 1, by omega⟩
    simp only [dLoop]
    rw [slices_Index_byte_byte_l0]
    have h1 : ¬ (i : Int) < l.length := by omega
    have h2 : l.drop i = [] := List.drop_eq_nil_of_le (by omega)
    simp only [am, amV, amM, amH, amL, amC, and_self, if_true, if_false, Nat.reduceAdd, Nat.reduceMul, Nat.reduceLeDiff, Nat.reduceLT, Nat.reduceEqDiff, decide_eq_true_eq, Bool.false_eq_true, decide_true, decide_false, cond_true, cond_false, Bool.not_true, Bool.not_false, h1, h2, List.not_mem_nil]
  | succ d ih =>
    intro i n hd hn' hi
    obtain ⟨n, rfl⟩ : ∃ m, n = m + 1 := ⟨n - 1, by omega⟩
    simp only [dLoop]
    rw [slices_Index_byte_byte_l0]
    have h1 : (i : Int) < l.length := by omega
    have h2 : i < l.length := by omega
    simp only [am, amV, amM, amH, amL, amC, and_self, if_true, if_false, Nat.reduceAdd, Nat.reduceMul, Nat.reduceLeDiff, Nat.reduceLT, Nat.reduceEqDiff, decide_eq_true_eq, Bool.false_eq_true, decide_true, decide_false, cond_true, cond_false, Bool.not_true, Bool.not_false, h1]
    rw [idx_tl (by omega) (by rw [by_len]; omega), by_get]
    simp only [am, amV, amM, amH, amL, amC, and_self, if_true, if_false, Nat.reduceAdd, Nat.reduceMul, Nat.reduceLeDiff, Nat.reduceLT, Nat.reduceEqDiff, decide_eq_true_eq, Bool.false_eq_true, decide_true, decide_false, cond_true, cond_false, Bool.not_true, Bool.not_false, Int.toNat_natCast]
    rw [List.drop_eq_getElem_cons h2]
    by_cases h3 : v = l[i]
    · have h4 : v ∈ l[i] :: l.drop (i + 1) := by rw [h3]; exact List.mem_cons_self
      rw [if_pos h3, if_pos h4, h3, List.idxOf_cons_self]
      rfl
    · rw [if_neg h3, w64_succ (by omega), ih (i + 1) n (by omega) (by omega) (by omega)]
      have h5 : (v ∈ l[i] :: l.drop (i + 1)) = (v ∈ l.drop (i + 1)) := by rw [List.mem_cons]; simp only [h3, false_or]
      have h7 : (l[i] == v) = false := by rw [beq_eq_false_iff_ne]; exact fun e => h3 e.symm
      have h6 : i + 1 + (l.drop (i + 1)).idxOf v = i + (l[i] :: l.drop (i + 1)).idxOf v := by
        rw [List.idxOf_cons, h7]; simp only [cond_false]; omega
      rw [h6]
      simp only [h5]

theorem index_all {C : Call1} {N n : Nat} {w : Bool} {l : List Int} {v : Int} (hl : l.length ≤ 8192) (hn : l.length < n) {k1 : List V → Heap → Prop} {K : V → Heap → Prop} :
    (dLoop n (slices_Index_byte_byte_l0 C N (.tl w 1 (by_ l)) (.i .u8 v) (.i .i64 (l.length : Int)) k1 K) [.i .i64 0] H = if v ∈ l then K (.i .i64 (l.idxOf v : Int)) H else k1 [] H) := by
  have := index_l0 (C := C) (N := N) (w := w) (v := v) (H := H) hl (K := K) (k1 := k1) l.length 0 n rfl hn (Nat.zero_le _)
  rw [List.drop_zero, Nat.zero_add] at this
  exact this
theorem contains_ok {w : Bool} {l : List Int} {v : Int} (hl : l.length ≤ 4) : CC (k + 8) 74 [.tl w 1 (by_ l), .i .u8 v] H K = K (.b (decide (v ∈ l))) H := by
  rw [c_slices_Contains_byte_byte (x0s := .tl true 1 (by_ l)) (x1s := .i .u8 v) _ _ _ (by simp only [am, amV, amM, amH, amL, amC, and_self, if_true, if_false, Nat.reduceAdd, Nat.reduceMul, Nat.reduceLeDiff, Nat.reduceLT, Nat.reduceEqDiff, decide_eq_true_eq, Bool.false_eq_true, decide_true, decide_false, cond_true, cond_false, Bool.not_true, Bool.not_false, amS, seal_by])]
  unfold slices_Contains_byte_byte
  rw [c_slices_Index_byte_byte (x0s := .tl true 1 (by_ l)) (x1s := .i .u8 v) _ _ _ (by simp only [am, amV, amM, amH, amL, amC, and_self, if_true, if_false, Nat.reduceAdd, Nat.reduceMul, Nat.reduceLeDiff, Nat.reduceLT, Nat.reduceEqDiff, decide_eq_true_eq, Bool.false_eq_true, decide_true, decide_false, cond_true, cond_false, Bool.not_true, Bool.not_false, amS, seal_by])]
  unfold slices_Index_byte_byte
  simp only [am, amV, amM, amH, amL, amC, and_self, if_true, if_false, Nat.reduceAdd, Nat.reduceMul, Nat.reduceLeDiff, Nat.reduceLT, Nat.reduceEqDiff, decide_eq_true_eq, Bool.false_eq_true, decide_true, decide_false, cond_true, cond_false, Bool.not_true, Bool.not_false, by_len]
  rw [index_all (by omega) (by omega)]
  by_cases h : v ∈ l
  · simp only [h, if_true]
    rw [back_seal rfl (seal_i ..)]
    simp only [am, amV, amM, amH, amL, amC, and_self, if_true, if_false, Nat.reduceAdd, Nat.reduceMul, Nat.reduceLeDiff, Nat.reduceLT, Nat.reduceEqDiff, decide_eq_true_eq, Bool.false_eq_true, decide_true, decide_false, cond_true, cond_false, Bool.not_true, Bool.not_false]
    rw [back_seal rfl (seal_b ..)]
    have : (l.idxOf v : Int) ≥ 0 := by omega
    simp only [this, decide_true]
  · simp only [h, if_false]
    rw [back_seal rfl (seal_i ..)]
    simp only [am, amV, amM, amH, amL, amC, and_self, if_true, if_false, Nat.reduceAdd, Nat.reduceMul, Nat.reduceLeDiff, Nat.reduceLT, Nat.reduceEqDiff, decide_eq_true_eq, Bool.false_eq_true, decide_true, decide_false, cond_true, cond_false, Bool.not_true, Bool.not_false]
    rw [back_seal rfl (seal_b ..)]
    rfl
theorem taken_ok {h b : Int} (h1 : h ≤ 1000) : CC (k + 1) 63 [.i .i64 h, .i .i64 b] H K = if h < 4 then K (.tup [.i .i64 h, .ns]) H else K (.tup [.i .i64 b, .rw H.length 5 1]) (H ++ [⟨38, 5, false, [[.i .i64 3, .i .i64 b, .i .i64 0, .i .i64 0, .i .i64 (h - 4)]]⟩]) := by
  rw [c_impl_taken]
  unfold impl_taken
  by_cases h2 : h < 4
  · simp only [am, amV, amM, amH, amL, amC, amX, amS, and_self, if_true, if_false, and_true, true_and, Nat.reduceAdd, Nat.reduceMul, Nat.reduceSub, Nat.reduceLeDiff, Nat.reduceLT, Nat.reduceEqDiff, decide_eq_true_eq, Bool.false_eq_true, decide_true, decide_false, cond_true, cond_false, Bool.not_true, Bool.not_false, List.replicate_succ, List.replicate_zero, h2]
  · simp only [am, amV, amM, amH, amL, amC, amX, amS, and_self, if_true, if_false, and_true, true_and, Nat.reduceAdd, Nat.reduceMul, Nat.reduceSub, Nat.reduceLeDiff, Nat.reduceLT, Nat.reduceEqDiff, decide_eq_true_eq, Bool.false_eq_true, decide_true, decide_false, cond_true, cond_false, Bool.not_true, Bool.not_false, List.replicate_succ, List.replicate_zero, h2]
    rw [w64 (by omega) (by omega)]
theorem l15Take_ok {h b : Int} (h1 : h ≤ 1000) : CC (k + 1) 68 [.i .i64 h, .i .i64 b] H K = if h < 4 then K (.tup [.zs, .i .i64 h]) H else K (.tup [.rw H.length 5 1, .i .i64 b]) (H ++ [⟨38, 5, false, [[.i .i64 3, .i .i64 b, .i .i64 0, .i .i64 0, .i .i64 (h - 4)]]⟩]) := by
  rw [c_spec_l15Take]
  unfold spec_l15Take
  by_cases h2 : h < 4
  · simp only [am, amV, amM, amH, amL, amC, amX, amS, and_self, if_true, if_false, and_true, true_and, Nat.reduceAdd, Nat.reduceMul, Nat.reduceSub, Nat.reduceLeDiff, Nat.reduceLT, Nat.reduceEqDiff, decide_eq_true_eq, Bool.false_eq_true, decide_true, decide_false, cond_true, cond_false, Bool.not_true, Bool.not_false, List.replicate_succ, List.replicate_zero, h2]
  · simp only [am, amV, amM, amH, amL, amC, amX, amS, and_self, if_true, if_false, and_true, true_and, Nat.reduceAdd, Nat.reduceMul, Nat.reduceSub, Nat.reduceLeDiff, Nat.reduceLT, Nat.reduceEqDiff, decide_eq_true_eq, Bool.false_eq_true, decide_true, decide_false, cond_true, cond_false, Bool.not_true, Bool.not_false, List.replicate_succ, List.replicate_zero, h2]
    rw [w64 (by omega) (by omega)]
end
end Go.Am.Try

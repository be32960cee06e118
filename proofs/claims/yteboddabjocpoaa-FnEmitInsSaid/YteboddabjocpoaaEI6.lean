/- The law on the steps of a place, by the machine. -/
import Derived.Test.YteboddabjocpoaaEI3
set_option linter.all false
namespace Go.Am.Try
open Go Go.Am
section
variable {k : Nat} {H : Heap} {K : V → Heap → Prop}

/-! ### What a step must be -/
def sFormL (o : Int) : List Int := if o = 1 then [82, 78] else if o = 2 ∨ o = 5 then [82, 65] else if o = 3 then [82, 83] else if o = 4 then [83, 65] else if o = 6 then [65, 66] else if o = 7 ∨ o = 11 then [65] else if o = 8 then [82] else if o = 9 then [84] else if o = 10 then [65, 84] else [82, 65, 66]
def sFormS (o : Int) : ByteArray := if o = 1 then ⟨#[82, 78]⟩ else if o = 2 ∨ o = 5 then ⟨#[82, 65]⟩ else if o = 3 then ⟨#[82, 83]⟩ else if o = 4 then ⟨#[83, 65]⟩ else if o = 6 then ⟨#[65, 66]⟩ else if o = 7 ∨ o = 11 then ⟨#[65]⟩ else if o = 8 then ⟨#[82]⟩ else if o = 9 then ⟨#[84]⟩ else if o = 10 then ⟨#[65, 84]⟩ else ⟨#[82, 65, 66]⟩
def sFormK (o : Int) : Bool := decide (1 ≤ o ∧ o ≤ 21)
theorem sFormL_len (o : Int) : (sFormL o).length ≤ 4 := by unfold sFormL; repeat' split <;> first | (simp; done) | skip
theorem sFormS_b (o : Int) : s2bV (.s (sFormS o)) = some (.tl false 1 (by_ (sFormL o))) := by
  unfold sFormS sFormL
  repeat' split
  all_goals rfl
theorem stepForm_ok {o : Int} (ho : 1 ≤ o ∧ o ≤ 21) : CC (k + 3) 72 [.i .i64 o] H K = K (.tup [.s (sFormS o), .b true]) H := by
  rw [c_impl_stepForm (x0s := .i .i64 o) _ _ _ (by simp only [am, amV, amM, amH, amL, amC, and_self, if_true, if_false, Nat.reduceAdd, Nat.reduceMul, Nat.reduceLeDiff, Nat.reduceLT, Nat.reduceEqDiff, decide_eq_true_eq, Bool.false_eq_true, decide_true, decide_false, cond_true, cond_false, Bool.not_true, Bool.not_false, amS])]
  unfold impl_stepForm sFormS
  by_cases h1 : o = 1
  · subst h1; simp only [am, amV, amM, amH, amL, amC, amX, amS, and_self, if_true, if_false, and_true, true_and, Nat.reduceAdd, Nat.reduceMul, Nat.reduceSub, Nat.reduceLeDiff, Nat.reduceLT, Nat.reduceEqDiff, decide_eq_true_eq, Bool.false_eq_true, decide_true, decide_false, cond_true, cond_false, Bool.not_true, Bool.not_false, List.replicate_succ, List.replicate_zero]; rw [back_seal rfl (seal_sb ..)]
  by_cases h2 : o = 2
  · subst h2; simp only [am, amV, amM, amH, amL, amC, amX, amS, and_self, if_true, if_false, and_true, true_and, Nat.reduceAdd, Nat.reduceMul, Nat.reduceSub, Nat.reduceLeDiff, Nat.reduceLT, Nat.reduceEqDiff, decide_eq_true_eq, Bool.false_eq_true, decide_true, decide_false, cond_true, cond_false, Bool.not_true, Bool.not_false, List.replicate_succ, List.replicate_zero, Int.reduceEq, true_or]; rw [back_seal rfl (seal_sb ..)]
  by_cases h3 : o = 5
  · subst h3; simp only [am, amV, amM, amH, amL, amC, amX, amS, and_self, if_true, if_false, and_true, true_and, Nat.reduceAdd, Nat.reduceMul, Nat.reduceSub, Nat.reduceLeDiff, Nat.reduceLT, Nat.reduceEqDiff, decide_eq_true_eq, Bool.false_eq_true, decide_true, decide_false, cond_true, cond_false, Bool.not_true, Bool.not_false, List.replicate_succ, List.replicate_zero, Int.reduceEq, or_true]; rw [back_seal rfl (seal_sb ..)]
  by_cases h4 : o = 3
  · subst h4; simp only [am, amV, amM, amH, amL, amC, amX, amS, and_self, if_true, if_false, and_true, true_and, Nat.reduceAdd, Nat.reduceMul, Nat.reduceSub, Nat.reduceLeDiff, Nat.reduceLT, Nat.reduceEqDiff, decide_eq_true_eq, Bool.false_eq_true, decide_true, decide_false, cond_true, cond_false, Bool.not_true, Bool.not_false, List.replicate_succ, List.replicate_zero, Int.reduceEq, or_self]; rw [back_seal rfl (seal_sb ..)]
  by_cases h5 : o = 4
  · subst h5; simp only [am, amV, amM, amH, amL, amC, amX, amS, and_self, if_true, if_false, and_true, true_and, Nat.reduceAdd, Nat.reduceMul, Nat.reduceSub, Nat.reduceLeDiff, Nat.reduceLT, Nat.reduceEqDiff, decide_eq_true_eq, Bool.false_eq_true, decide_true, decide_false, cond_true, cond_false, Bool.not_true, Bool.not_false, List.replicate_succ, List.replicate_zero, Int.reduceEq, or_self]; rw [back_seal rfl (seal_sb ..)]
  by_cases h6 : o = 6
  · subst h6; simp only [am, amV, amM, amH, amL, amC, amX, amS, and_self, if_true, if_false, and_true, true_and, Nat.reduceAdd, Nat.reduceMul, Nat.reduceSub, Nat.reduceLeDiff, Nat.reduceLT, Nat.reduceEqDiff, decide_eq_true_eq, Bool.false_eq_true, decide_true, decide_false, cond_true, cond_false, Bool.not_true, Bool.not_false, List.replicate_succ, List.replicate_zero, Int.reduceEq, or_self]; rw [back_seal rfl (seal_sb ..)]
  by_cases h7 : o = 7
  · subst h7; simp only [am, amV, amM, amH, amL, amC, amX, amS, and_self, if_true, if_false, and_true, true_and, Nat.reduceAdd, Nat.reduceMul, Nat.reduceSub, Nat.reduceLeDiff, Nat.reduceLT, Nat.reduceEqDiff, decide_eq_true_eq, Bool.false_eq_true, decide_true, decide_false, cond_true, cond_false, Bool.not_true, Bool.not_false, List.replicate_succ, List.replicate_zero, Int.reduceEq, or_self, true_or]; rw [back_seal rfl (seal_sb ..)]
  by_cases h8 : o = 11
  · subst h8; simp only [am, amV, amM, amH, amL, amC, amX, amS, and_self, if_true, if_false, and_true, true_and, Nat.reduceAdd, Nat.reduceMul, Nat.reduceSub, Nat.reduceLeDiff, Nat.reduceLT, Nat.reduceEqDiff, decide_eq_true_eq, Bool.false_eq_true, decide_true, decide_false, cond_true, cond_false, Bool.not_true, Bool.not_false, List.replicate_succ, List.replicate_zero, Int.reduceEq, or_self, or_true]; rw [back_seal rfl (seal_sb ..)]
  by_cases h9 : o = 8
  · subst h9; simp only [am, amV, amM, amH, amL, amC, amX, amS, and_self, if_true, if_false, and_true, true_and, Nat.reduceAdd, Nat.reduceMul, Nat.reduceSub, Nat.reduceLeDiff, Nat.reduceLT, Nat.reduceEqDiff, decide_eq_true_eq, Bool.false_eq_true, decide_true, decide_false, cond_true, cond_false, Bool.not_true, Bool.not_false, List.replicate_succ, List.replicate_zero, Int.reduceEq, or_self]; rw [back_seal rfl (seal_sb ..)]
  by_cases h10 : o = 9
  · subst h10; simp only [am, amV, amM, amH, amL, amC, amX, amS, and_self, if_true, if_false, and_true, true_and, Nat.reduceAdd, Nat.reduceMul, Nat.reduceSub, Nat.reduceLeDiff, Nat.reduceLT, Nat.reduceEqDiff, decide_eq_true_eq, Bool.false_eq_true, decide_true, decide_false, cond_true, cond_false, Bool.not_true, Bool.not_false, List.replicate_succ, List.replicate_zero, Int.reduceEq, or_self]; rw [back_seal rfl (seal_sb ..)]
  by_cases h11 : o = 10
  · subst h11; simp only [am, amV, amM, amH, amL, amC, amX, amS, and_self, if_true, if_false, and_true, true_and, Nat.reduceAdd, Nat.reduceMul, Nat.reduceSub, Nat.reduceLeDiff, Nat.reduceLT, Nat.reduceEqDiff, decide_eq_true_eq, Bool.false_eq_true, decide_true, decide_false, cond_true, cond_false, Bool.not_true, Bool.not_false, List.replicate_succ, List.replicate_zero, Int.reduceEq, or_self]; rw [back_seal rfl (seal_sb ..)]
  have hw : wordP (o - 11) = true := by unfold wordP; exact decide_eq_true (by omega)
  have h9' : IntKind.i64.wrap (o - 11) = o - 11 := w64 (by omega) (by omega)
  simp only [am, amV, amM, amH, amL, amC, amX, amS, and_self, if_true, if_false, and_true, true_and, Nat.reduceAdd, Nat.reduceMul, Nat.reduceSub, Nat.reduceLeDiff, Nat.reduceLT, Nat.reduceEqDiff, decide_eq_true_eq, Bool.false_eq_true, decide_true, decide_false, cond_true, cond_false, Bool.not_true, Bool.not_false, List.replicate_succ, List.replicate_zero, h1, h2, h3, h4, h5, h6, h7, h8, h9, h10, h11, or_self, h9', impl_WordOk_ok, hw]
  rw [back_seal rfl (seal_sb ..)]
theorem stepPart_ok {x m : Int} {q : Bool} : CC (k + 2) 73 [.i .i64 x, .b q, .i .i64 m] H K = K (.b (if q = true then decide (0 ≤ x ∧ x ≤ m) else decide (x = 0))) H := by
  rw [c_impl_stepPart (x0s := .i .i64 x) (x1s := .b q) (x2s := .i .i64 m) _ _ _ (by simp only [am, amV, amM, amH, amL, amC, and_self, if_true, if_false, Nat.reduceAdd, Nat.reduceMul, Nat.reduceLeDiff, Nat.reduceLT, Nat.reduceEqDiff, decide_eq_true_eq, Bool.false_eq_true, decide_true, decide_false, cond_true, cond_false, Bool.not_true, Bool.not_false, amS])]
  unfold impl_stepPart
  cases q <;> simp only [am, amV, amM, amH, amL, amC, amX, amS, and_self, if_true, if_false, and_true, true_and, Nat.reduceAdd, Nat.reduceMul, Nat.reduceSub, Nat.reduceLeDiff, Nat.reduceLT, Nat.reduceEqDiff, decide_eq_true_eq, Bool.false_eq_true, decide_true, decide_false, cond_true, cond_false, Bool.not_true, Bool.not_false, List.replicate_succ, List.replicate_zero, in_ok] <;> rw [back_seal rfl (seal_b ..)]

/-- A step that is right. -/
def StepRight (c : List V) : Prop := ∃ o r a b n, c = stC o r a b n ∧ 1 ≤ o ∧ o ≤ 21 ∧ (if 82 ∈ sFormL o then 0 ≤ r ∧ r ≤ 7 else r = 0) ∧ (if 65 ∈ sFormL o then 0 ≤ a ∧ a ≤ 7 else a = 0) ∧ (if 66 ∈ sFormL o then 0 ≤ b ∧ b ≤ 7 else b = 0) ∧
  (78 ∈ sFormL o ∨ 83 ∈ sFormL o ∧ 0 ≤ n ∧ n ≤ 39 ∨ (84 ∉ sFormL o ∧ n = 0))
theorem StepOk_ok {c : List V} (hc : StepRight c) {m : Int} : CC (k + 10) 21 [.agg c, .i .i64 m] H K = K (.b true) H := by
  obtain ⟨o, r, a, b, n, rfl, o1, o2, hr, ha, hb, hn⟩ := hc
  rw [c_impl_StepOk (x0s := .agg (stC o r a b n)) (x1s := .i .i64 m) _ _ _ (by simp only [am, amV, amM, amH, amL, amC, amX, amS, and_self, if_true, if_false, and_true, true_and, Nat.reduceAdd, Nat.reduceMul, Nat.reduceSub, Nat.reduceLeDiff, Nat.reduceLT, Nat.reduceEqDiff, decide_eq_true_eq, Bool.false_eq_true, decide_true, decide_false, cond_true, cond_false, Bool.not_true, Bool.not_false, List.replicate_succ, List.replicate_zero, stC])]
  unfold impl_StepOk stC
  have q1 : ¬ o < 1 := by omega
  have q2 : ¬ o > 21 := by omega
  have e1 : (if (82 : Int) ∈ sFormL o then decide (0 ≤ r ∧ r ≤ 7) else decide (r = 0)) = true := by
    by_cases h : (82 : Int) ∈ sFormL o <;> simp only [h, if_true, if_false] at hr ⊢ <;> exact decide_eq_true hr
  have e2 : (if (65 : Int) ∈ sFormL o then decide (0 ≤ a ∧ a ≤ 7) else decide (a = 0)) = true := by
    by_cases h : (65 : Int) ∈ sFormL o <;> simp only [h, if_true, if_false] at ha ⊢ <;> exact decide_eq_true ha
  have e3 : (if (66 : Int) ∈ sFormL o then decide (0 ≤ b ∧ b ≤ 7) else decide (b = 0)) = true := by
    by_cases h : (66 : Int) ∈ sFormL o <;> simp only [h, if_true, if_false] at hb ⊢ <;> exact decide_eq_true hb
  simp only [am, amV, amM, amH, amL, amC, amX, amS, and_self, if_true, if_false, and_true, true_and, Nat.reduceAdd, Nat.reduceMul, Nat.reduceSub, Nat.reduceLeDiff, Nat.reduceLT, Nat.reduceEqDiff, decide_eq_true_eq, Bool.false_eq_true, decide_true, decide_false, cond_true, cond_false, Bool.not_true, Bool.not_false, List.replicate_succ, List.replicate_zero, q1, q2, stepForm_ok ⟨o1, o2⟩, sFormS_b, contains_ok (sFormL_len o), stepPart_ok, in_ok, e1, e2, e3]
  by_cases h1 : (78 : Int) ∈ sFormL o
  · simp only [am, amV, amM, amH, amL, amC, amX, amS, and_self, if_true, if_false, and_true, true_and, Nat.reduceAdd, Nat.reduceMul, Nat.reduceSub, Nat.reduceLeDiff, Nat.reduceLT, Nat.reduceEqDiff, decide_eq_true_eq, Bool.false_eq_true, decide_true, decide_false, cond_true, cond_false, Bool.not_true, Bool.not_false, List.replicate_succ, List.replicate_zero, h1]; rw [back_seal rfl (seal_b ..)]
  · rcases hn with hn | ⟨h2, hn⟩ | ⟨h2, hn⟩
    · exact absurd hn h1
    · simp only [am, amV, amM, amH, amL, amC, amX, amS, and_self, if_true, if_false, and_true, true_and, Nat.reduceAdd, Nat.reduceMul, Nat.reduceSub, Nat.reduceLeDiff, Nat.reduceLT, Nat.reduceEqDiff, decide_eq_true_eq, Bool.false_eq_true, decide_true, decide_false, cond_true, cond_false, Bool.not_true, Bool.not_false, List.replicate_succ, List.replicate_zero, h1, h2, hn]; rw [back_seal rfl (seal_b ..)]
    · by_cases h3 : (83 : Int) ∈ sFormL o
      · subst hn
        simp only [am, amV, amM, amH, amL, amC, amX, amS, and_self, if_true, if_false, and_true, true_and, Nat.reduceAdd, Nat.reduceMul, Nat.reduceSub, Nat.reduceLeDiff, Nat.reduceLT, Nat.reduceEqDiff, decide_eq_true_eq, Bool.false_eq_true, decide_true, decide_false, cond_true, cond_false, Bool.not_true, Bool.not_false, List.replicate_succ, List.replicate_zero, h1, h2, h3, Int.reduceLE]
        rw [back_seal rfl (seal_b ..)]
      · simp only [am, amV, amM, amH, amL, amC, amX, amS, and_self, if_true, if_false, and_true, true_and, Nat.reduceAdd, Nat.reduceMul, Nat.reduceSub, Nat.reduceLeDiff, Nat.reduceLT, Nat.reduceEqDiff, decide_eq_true_eq, Bool.false_eq_true, decide_true, decide_false, cond_true, cond_false, Bool.not_true, Bool.not_false, List.replicate_succ, List.replicate_zero, h1, h2, h3, hn]
        rw [back_seal rfl (seal_b ..)]
end
end Go.Am.Try

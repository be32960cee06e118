/- What a place of a list has, and what a step has. -/
import Derived.Test.YteboddabjocpoaaEI1
set_option linter.all false
namespace Go.Am.Try
open Go Go.Am

def wordP (op : Int) : Bool := decide (1 ≤ op ∧ op ≤ 10)
def formK (op : Int) : Bool := decide (op = 20 ∨ op = 21 ∨ op = 25 ∨ op = 22 ∨ op = 23 ∨ op = 24) || wordP op
def formL (op : Int) : List Int := if op = 20 then [68, 78] else if op = 21 ∨ op = 25 then [68, 65] else if op = 22 then [65, 66] else if op = 23 then [65] else if op = 24 then [68] else [68, 65, 66]
def formS (op : Int) : ByteArray := if op = 20 then ⟨#[68, 78]⟩ else if op = 21 ∨ op = 25 then ⟨#[68, 65]⟩ else if op = 22 then ⟨#[65, 66]⟩ else if op = 23 then ⟨#[65]⟩ else if op = 24 then ⟨#[68]⟩ else ⟨#[68, 65, 66]⟩
def hasP (op p : Int) : Bool := formK op && decide (p ∈ formL op)
theorem formL_len (op : Int) : (formL op).length ≤ 4 := by unfold formL; repeat' split <;> first | (simp; done) | skip
theorem formS_b (op : Int) : s2bV (.s (formS op)) = some (.tl false 1 (by_ (formL op))) := by
  unfold formS formL
  repeat' split
  all_goals rfl

section
variable {k : Nat} {H : Heap} {K : V → Heap → Prop}

theorem impl_WordOk_ok {op : Int} : CC (k + 2) 105 [.i .i64 op] H K = K (.b (wordP op)) H := by
  rw [c_impl_WordOk (x0s := .i .i64 op) _ _ _ (by simp only [am, amV, amM, amH, amL, amC, and_self, if_true, if_false, Nat.reduceAdd, Nat.reduceMul, Nat.reduceLeDiff, Nat.reduceLT, Nat.reduceEqDiff, decide_eq_true_eq, Bool.false_eq_true, decide_true, decide_false, cond_true, cond_false, Bool.not_true, Bool.not_false, amS])]
  unfold impl_WordOk
  rw [in_ok, back_seal rfl (seal_b ..)]
  rfl
theorem spec_WordOk_ok {op : Int} : CC (k + 2) 71 [.i .i64 op] H K = K (.b (wordP op)) H := by
  rw [c_spec_WordOk (x0s := .i .i64 op) _ _ _ (by simp only [am, amV, amM, amH, amL, amC, and_self, if_true, if_false, Nat.reduceAdd, Nat.reduceMul, Nat.reduceLeDiff, Nat.reduceLT, Nat.reduceEqDiff, decide_eq_true_eq, Bool.false_eq_true, decide_true, decide_false, cond_true, cond_false, Bool.not_true, Bool.not_false, amS])]
  unfold spec_WordOk
  rw [l1In_ok, back_seal rfl (seal_b ..)]
  rfl

theorem seal_sb (H : Heap) (s : ByteArray) (q : Bool) : sealV false true false H (.tu [.at_, .at_]) (.tup [.s s, .b q]) = some (.tup [.s s, .b q]) := by simp only [amS]; rfl
theorem formOf_ok {op : Int} : CC (k + 3) 103 [.i .i64 op] H K = K (.tup [.s (formS op), .b (formK op)]) H := by
  rw [c_impl_formOf (x0s := .i .i64 op) _ _ _ (by simp only [am, amV, amM, amH, amL, amC, and_self, if_true, if_false, Nat.reduceAdd, Nat.reduceMul, Nat.reduceLeDiff, Nat.reduceLT, Nat.reduceEqDiff, decide_eq_true_eq, Bool.false_eq_true, decide_true, decide_false, cond_true, cond_false, Bool.not_true, Bool.not_false, amS])]
  unfold impl_formOf formS formK
  by_cases h1 : op = 20
  · simp only [am, amV, amM, amH, amL, amC, and_self, if_true, if_false, Nat.reduceAdd, Nat.reduceMul, Nat.reduceLeDiff, Nat.reduceLT, Nat.reduceEqDiff, decide_eq_true_eq, Bool.false_eq_true, decide_true, decide_false, cond_true, cond_false, Bool.not_true, Bool.not_false, h1, true_or, Bool.true_or]; rw [back_seal rfl (seal_sb ..)]
  by_cases h2 : op = 21
  · simp only [am, amV, amM, amH, amL, amC, and_self, if_true, if_false, Nat.reduceAdd, Nat.reduceMul, Nat.reduceLeDiff, Nat.reduceLT, Nat.reduceEqDiff, decide_eq_true_eq, Bool.false_eq_true, decide_true, decide_false, cond_true, cond_false, Bool.not_true, Bool.not_false, h2, true_or, or_true, Bool.true_or, Int.reduceEq]; rw [back_seal rfl (seal_sb ..)]
  by_cases h3 : op = 25
  · simp only [am, amV, amM, amH, amL, amC, and_self, if_true, if_false, Nat.reduceAdd, Nat.reduceMul, Nat.reduceLeDiff, Nat.reduceLT, Nat.reduceEqDiff, decide_eq_true_eq, Bool.false_eq_true, decide_true, decide_false, cond_true, cond_false, Bool.not_true, Bool.not_false, h3, true_or, or_true, Bool.true_or, Int.reduceEq]; rw [back_seal rfl (seal_sb ..)]
  by_cases h4 : op = 22
  · simp only [am, amV, amM, amH, amL, amC, and_self, if_true, if_false, Nat.reduceAdd, Nat.reduceMul, Nat.reduceLeDiff, Nat.reduceLT, Nat.reduceEqDiff, decide_eq_true_eq, Bool.false_eq_true, decide_true, decide_false, cond_true, cond_false, Bool.not_true, Bool.not_false, h4, true_or, or_true, or_false, false_or, Bool.true_or, Int.reduceEq]; rw [back_seal rfl (seal_sb ..)]
  by_cases h5 : op = 23
  · simp only [am, amV, amM, amH, amL, amC, and_self, if_true, if_false, Nat.reduceAdd, Nat.reduceMul, Nat.reduceLeDiff, Nat.reduceLT, Nat.reduceEqDiff, decide_eq_true_eq, Bool.false_eq_true, decide_true, decide_false, cond_true, cond_false, Bool.not_true, Bool.not_false, h5, true_or, or_true, or_false, false_or, Bool.true_or, Int.reduceEq]; rw [back_seal rfl (seal_sb ..)]
  by_cases h6 : op = 24
  · simp only [am, amV, amM, amH, amL, amC, and_self, if_true, if_false, Nat.reduceAdd, Nat.reduceMul, Nat.reduceLeDiff, Nat.reduceLT, Nat.reduceEqDiff, decide_eq_true_eq, Bool.false_eq_true, decide_true, decide_false, cond_true, cond_false, Bool.not_true, Bool.not_false, h6, true_or, or_true, or_false, false_or, Bool.true_or, Int.reduceEq]; rw [back_seal rfl (seal_sb ..)]
  simp only [am, amV, amM, amH, amL, amC, and_self, if_true, if_false, Nat.reduceAdd, Nat.reduceMul, Nat.reduceLeDiff, Nat.reduceLT, Nat.reduceEqDiff, decide_eq_true_eq, Bool.false_eq_true, decide_true, decide_false, cond_true, cond_false, Bool.not_true, Bool.not_false, h1, h2, h3, h4, h5, h6, impl_WordOk_ok, or_false, Bool.false_or]
  rw [back_seal rfl (seal_sb ..)]

theorem has_ok {op p : Int} : CC (k + 10) 62 [.i .i64 op, .i .u8 p] H K = K (.b (hasP op p)) H := by
  rw [c_impl_has (x0s := .i .i64 op) (x1s := .i .u8 p) _ _ _ (by simp only [am, amV, amM, amH, amL, amC, and_self, if_true, if_false, Nat.reduceAdd, Nat.reduceMul, Nat.reduceLeDiff, Nat.reduceLT, Nat.reduceEqDiff, decide_eq_true_eq, Bool.false_eq_true, decide_true, decide_false, cond_true, cond_false, Bool.not_true, Bool.not_false, amS])]
  unfold impl_has hasP
  rw [formOf_ok]
  cases h : formK op with
  | false => simp only [am, amV, amM, amH, amL, amC, and_self, if_true, if_false, Nat.reduceAdd, Nat.reduceMul, Nat.reduceLeDiff, Nat.reduceLT, Nat.reduceEqDiff, decide_eq_true_eq, Bool.false_eq_true, decide_true, decide_false, cond_true, cond_false, Bool.not_true, Bool.not_false, Bool.false_and]; rw [back_seal rfl (seal_b ..)]
  | true =>
    simp only [am, amV, amM, amH, amL, amC, and_self, if_true, if_false, Nat.reduceAdd, Nat.reduceMul, Nat.reduceLeDiff, Nat.reduceLT, Nat.reduceEqDiff, decide_eq_true_eq, Bool.false_eq_true, decide_true, decide_false, cond_true, cond_false, Bool.not_true, Bool.not_false, formS_b, Bool.true_and]
    rw [contains_ok (formL_len op)]
    rw [back_seal rfl (seal_b ..)]

def homeP (h : Int) : Bool := decide (0 ≤ h ∧ h ≤ 39)
theorem isHome_ok {h : Int} : CC (k + 2) 104 [.i .i64 h] H K = K (.b (homeP h)) H := by
  rw [c_impl_isHome (x0s := .i .i64 h) _ _ _ (by simp only [am, amV, amM, amH, amL, amC, and_self, if_true, if_false, Nat.reduceAdd, Nat.reduceMul, Nat.reduceLeDiff, Nat.reduceLT, Nat.reduceEqDiff, decide_eq_true_eq, Bool.false_eq_true, decide_true, decide_false, cond_true, cond_false, Bool.not_true, Bool.not_false, amS])]
  unfold impl_isHome
  rw [in_ok, back_seal rfl (seal_b ..)]
  rfl
theorem l15Home_ok {h : Int} : CC (k + 2) 66 [.i .i64 h] H K = K (.b (homeP h)) H := by
  rw [c_spec_l15Home (x0s := .i .i64 h) _ _ _ (by simp only [am, amV, amM, amH, amL, amC, and_self, if_true, if_false, Nat.reduceAdd, Nat.reduceMul, Nat.reduceLeDiff, Nat.reduceLT, Nat.reduceEqDiff, decide_eq_true_eq, Bool.false_eq_true, decide_true, decide_false, cond_true, cond_false, Bool.not_true, Bool.not_false, amS])]
  unfold spec_l15Home
  rw [l1In_ok, back_seal rfl (seal_b ..)]
  rfl

/-- A place of a list. -/
abbrev insV (op d a b n : Int) : V := .agg [.i .i64 op, .i .i64 d, .i .i64 a, .i .i64 b, .i .i64 n]
def homedP (op d a b : Int) : Bool := formK op && (!hasP op 68 || homeP d) && (!hasP op 65 || homeP a) && (!hasP op 66 || homeP b)
set_option maxHeartbeats 4000000 in
theorem homed_ok {op d a b n : Int} : CC (k + 11) 60 [insV op d a b n] H K = K (.b (homedP op d a b)) H := by
  rw [c_impl_homed (x0s := insV op d a b n) _ _ _ (by simp only [am, amV, amM, amH, amL, amC, and_self, if_true, if_false, Nat.reduceAdd, Nat.reduceMul, Nat.reduceLeDiff, Nat.reduceLT, Nat.reduceEqDiff, decide_eq_true_eq, Bool.false_eq_true, decide_true, decide_false, cond_true, cond_false, Bool.not_true, Bool.not_false, amS])]
  unfold impl_homed homedP
  cases h1 : formK op <;> cases h2 : hasP op 68 <;> cases h3 : hasP op 65 <;> cases h4 : hasP op 66 <;> cases h5 : homeP d <;> cases h6 : homeP a <;> cases h7 : homeP b <;> simp only [am, amV, amM, amH, amL, amC, amX, amS, and_self, if_true, if_false, and_true, true_and, Nat.reduceAdd, Nat.reduceMul, Nat.reduceSub, Nat.reduceLeDiff, Nat.reduceLT, Nat.reduceEqDiff, decide_eq_true_eq, Bool.false_eq_true, decide_true, decide_false, cond_true, cond_false, Bool.not_true, Bool.not_false, List.replicate_succ, List.replicate_zero, formOf_ok, has_ok, isHome_ok, h1, h2, h3, h4, h5, h6, h7] <;> rw [back_seal rfl (seal_b ..)] <;> rfl
end
end Go.Am.Try

/- A drawn place of a list. -/
import Derived.Test.YteboddabjocpoaaEI6
set_option linter.all false
namespace Go.Am.Try
open Go Go.Am
section
variable {k : Nat} {H0 : Heap} {K : V → Heap → Prop}

def insOps : List Int := [0, 1, 5, 10, 11, 20, 21, 22, 23, 24, 25, 26]

set_option maxHeartbeats 4000000 in
theorem DrawEmitIns_ok {w : Bool} {code : List Int} (hc : code.length ≤ 1152921504606846976) (hb : 8192 ≤ k) (hk : ∀ op d a b n, op ∈ insOps → (-1 ≤ d ∧ d ≤ 40) → (-1 ≤ a ∧ a ≤ 40) → (-1 ≤ b ∧ b ≤ 40) → K (insV op d a b n) H0) : CC (k + 6) 17 [.tl w 1 (by_ code)] H0 K := by
  rw [c_spec_DrawEmitIns (x0s := .tl true 1 (by_ code)) _ _ _ (by simp only [am, amV, amM, amH, amL, amC, and_self, if_true, if_false, Nat.reduceAdd, Nat.reduceMul, Nat.reduceLeDiff, Nat.reduceLT, Nat.reduceEqDiff, decide_eq_true_eq, Bool.false_eq_true, decide_true, decide_false, cond_true, cond_false, Bool.not_true, Bool.not_false, amS, seal_by])]
  unfold spec_DrawEmitIns
  have hk' : ∀ op d a b n H', op ∈ insOps → (-1 ≤ d ∧ d ≤ 40) → (-1 ≤ a ∧ a ≤ 40) → (-1 ≤ b ∧ b ≤ 40) → backD g_spec_DrawEmitIns H0 K (insV op d a b n) H' := fun op d a b n H' h1 h2 h3 h4 => by
    rw [back_seal rfl (by simp only [am, amV, amM, amH, amL, amC, amX, amS, and_self, if_true, if_false, and_true, true_and, Nat.reduceAdd, Nat.reduceMul, Nat.reduceSub, Nat.reduceLeDiff, Nat.reduceLT, Nat.reduceEqDiff, decide_eq_true_eq, Bool.false_eq_true, decide_true, decide_false, cond_true, cond_false, Bool.not_true, Bool.not_false, List.replicate_succ, List.replicate_zero, g_spec_DrawEmitIns]; rfl)]; exact hk op d a b n h1 h2 h3 h4
  simp only [am, amV, amM, amH, amL, amC, amX, amS, and_self, if_true, if_false, and_true, true_and, Nat.reduceAdd, Nat.reduceMul, Nat.reduceSub, Nat.reduceLeDiff, Nat.reduceLT, Nat.reduceEqDiff, decide_eq_true_eq, Bool.false_eq_true, decide_true, decide_false, cond_true, cond_false, Bool.not_true, Bool.not_false, List.replicate_succ, List.replicate_zero]
  refine l1New_ok hc (by omega) fun h => ?_
  rw [c_spec_l2DrawIns]
  unfold spec_l2DrawIns
  simp only [am, amV, amM, amH, amL, amC, amX, amS, and_self, if_true, if_false, and_true, true_and, Nat.reduceAdd, Nat.reduceMul, Nat.reduceSub, Nat.reduceLeDiff, Nat.reduceLT, Nat.reduceEqDiff, decide_eq_true_eq, Bool.false_eq_true, decide_true, decide_false, cond_true, cond_false, Bool.not_true, Bool.not_false, List.replicate_succ, List.replicate_zero]
  refine l1PickInt_ok (l := insOps) hc rfl (Int.le_refl _) (by decide) fun op i1 h1 hop hi1 => ?_
  simp only [am, amV, amM, amH, amL, amC, amX, amS, and_self, if_true, if_false, and_true, true_and, Nat.reduceAdd, Nat.reduceMul, Nat.reduceSub, Nat.reduceLeDiff, Nat.reduceLT, Nat.reduceEqDiff, decide_eq_true_eq, Bool.false_eq_true, decide_true, decide_false, cond_true, cond_false, Bool.not_true, Bool.not_false, List.replicate_succ, List.replicate_zero]
  refine l1Below_ok hc rfl hi1 fun d i2 h2 hd hi2 => ?_
  simp only [am, amV, amM, amH, amL, amC, amX, amS, and_self, if_true, if_false, and_true, true_and, Nat.reduceAdd, Nat.reduceMul, Nat.reduceSub, Nat.reduceLeDiff, Nat.reduceLT, Nat.reduceEqDiff, decide_eq_true_eq, Bool.false_eq_true, decide_true, decide_false, cond_true, cond_false, Bool.not_true, Bool.not_false, List.replicate_succ, List.replicate_zero]
  refine l1Below_ok hc rfl hi2 fun a i3 h3 ha hi3 => ?_
  simp only [am, amV, amM, amH, amL, amC, amX, amS, and_self, if_true, if_false, and_true, true_and, Nat.reduceAdd, Nat.reduceMul, Nat.reduceSub, Nat.reduceLeDiff, Nat.reduceLT, Nat.reduceEqDiff, decide_eq_true_eq, Bool.false_eq_true, decide_true, decide_false, cond_true, cond_false, Bool.not_true, Bool.not_false, List.replicate_succ, List.replicate_zero]
  refine l1Below_ok hc rfl hi3 fun b i4 h4 hbb hi4 => ?_
  simp only [am, amV, amM, amH, amL, amC, amX, amS, and_self, if_true, if_false, and_true, true_and, Nat.reduceAdd, Nat.reduceMul, Nat.reduceSub, Nat.reduceLeDiff, Nat.reduceLT, Nat.reduceEqDiff, decide_eq_true_eq, Bool.false_eq_true, decide_true, decide_false, cond_true, cond_false, Bool.not_true, Bool.not_false, List.replicate_succ, List.replicate_zero]
  refine l1Below_ok hc rfl hi4 fun n i5 h5 hn hi5 => ?_
  simp only [am, amV, amM, amH, amL, amC, amX, amS, and_self, if_true, if_false, and_true, true_and, Nat.reduceAdd, Nat.reduceMul, Nat.reduceSub, Nat.reduceLeDiff, Nat.reduceLT, Nat.reduceEqDiff, decide_eq_true_eq, Bool.false_eq_true, decide_true, decide_false, cond_true, cond_false, Bool.not_true, Bool.not_false, List.replicate_succ, List.replicate_zero]
  have hd := hd.2 (by decide)
  have ha := ha.2 (by decide)
  have hbb := hbb.2 (by decide)
  refine l1Once_ok hc rfl hi5 fun q i6 h6 hi6 => ?_
  have mem3 : ∀ x, x ∈ [(-1 : Int), 39, 40] → -1 ≤ x ∧ x ≤ 40 := by
    intro x hx
    simp only [List.mem_cons, List.not_mem_nil, or_false] at hx
    omega
  cases q
  · simp only [am, amV, amM, amH, amL, amC, amX, amS, and_self, if_true, if_false, and_true, true_and, Nat.reduceAdd, Nat.reduceMul, Nat.reduceSub, Nat.reduceLeDiff, Nat.reduceLT, Nat.reduceEqDiff, decide_eq_true_eq, Bool.false_eq_true, decide_true, decide_false, cond_true, cond_false, Bool.not_true, Bool.not_false, List.replicate_succ, List.replicate_zero]
    refine l1Once_ok hc rfl hi6 fun q2 i7 h7 hi7 => ?_
    cases q2
    · simp only [am, amV, amM, amH, amL, amC, amX, amS, and_self, if_true, if_false, and_true, true_and, Nat.reduceAdd, Nat.reduceMul, Nat.reduceSub, Nat.reduceLeDiff, Nat.reduceLT, Nat.reduceEqDiff, decide_eq_true_eq, Bool.false_eq_true, decide_true, decide_false, cond_true, cond_false, Bool.not_true, Bool.not_false, List.replicate_succ, List.replicate_zero]
      exact hk' _ _ _ _ _ _ hop ⟨by omega, by omega⟩ ⟨by omega, by omega⟩ ⟨by omega, by omega⟩
    · simp only [am, amV, amM, amH, amL, amC, amX, amS, and_self, if_true, if_false, and_true, true_and, Nat.reduceAdd, Nat.reduceMul, Nat.reduceSub, Nat.reduceLeDiff, Nat.reduceLT, Nat.reduceEqDiff, decide_eq_true_eq, Bool.false_eq_true, decide_true, decide_false, cond_true, cond_false, Bool.not_true, Bool.not_false, List.replicate_succ, List.replicate_zero]
      refine l1PickInt_ok (l := [-1, 39, 40]) hc rfl hi7 (by decide) fun x i8 h8 hx hi8 => ?_
      simp only [am, amV, amM, amH, amL, amC, amX, amS, and_self, if_true, if_false, and_true, true_and, Nat.reduceAdd, Nat.reduceMul, Nat.reduceSub, Nat.reduceLeDiff, Nat.reduceLT, Nat.reduceEqDiff, decide_eq_true_eq, Bool.false_eq_true, decide_true, decide_false, cond_true, cond_false, Bool.not_true, Bool.not_false, List.replicate_succ, List.replicate_zero]
      exact hk' _ _ _ _ _ _ hop (mem3 _ hx) ⟨by omega, by omega⟩ ⟨by omega, by omega⟩
  · simp only [am, amV, amM, amH, amL, amC, amX, amS, and_self, if_true, if_false, and_true, true_and, Nat.reduceAdd, Nat.reduceMul, Nat.reduceSub, Nat.reduceLeDiff, Nat.reduceLT, Nat.reduceEqDiff, decide_eq_true_eq, Bool.false_eq_true, decide_true, decide_false, cond_true, cond_false, Bool.not_true, Bool.not_false, List.replicate_succ, List.replicate_zero]
    refine l1PickInt_ok (l := [-1, 39, 40]) hc rfl hi6 (by decide) fun x i7 h7 hx hi7 => ?_
    simp only [am, amV, amM, amH, amL, amC, amX, amS, and_self, if_true, if_false, and_true, true_and, Nat.reduceAdd, Nat.reduceMul, Nat.reduceSub, Nat.reduceLeDiff, Nat.reduceLT, Nat.reduceEqDiff, decide_eq_true_eq, Bool.false_eq_true, decide_true, decide_false, cond_true, cond_false, Bool.not_true, Bool.not_false, List.replicate_succ, List.replicate_zero]
    refine l1Once_ok hc rfl hi7 fun q2 i8 h8 hi8 => ?_
    cases q2
    · simp only [am, amV, amM, amH, amL, amC, amX, amS, and_self, if_true, if_false, and_true, true_and, Nat.reduceAdd, Nat.reduceMul, Nat.reduceSub, Nat.reduceLeDiff, Nat.reduceLT, Nat.reduceEqDiff, decide_eq_true_eq, Bool.false_eq_true, decide_true, decide_false, cond_true, cond_false, Bool.not_true, Bool.not_false, List.replicate_succ, List.replicate_zero]
      exact hk' _ _ _ _ _ _ hop ⟨by omega, by omega⟩ (mem3 _ hx) ⟨by omega, by omega⟩
    · simp only [am, amV, amM, amH, amL, amC, amX, amS, and_self, if_true, if_false, and_true, true_and, Nat.reduceAdd, Nat.reduceMul, Nat.reduceSub, Nat.reduceLeDiff, Nat.reduceLT, Nat.reduceEqDiff, decide_eq_true_eq, Bool.false_eq_true, decide_true, decide_false, cond_true, cond_false, Bool.not_true, Bool.not_false, List.replicate_succ, List.replicate_zero]
      refine l1PickInt_ok (l := [-1, 39, 40]) hc rfl hi8 (by decide) fun y i9 h9 hy hi9 => ?_
      simp only [am, amV, amM, amH, amL, amC, amX, amS, and_self, if_true, if_false, and_true, true_and, Nat.reduceAdd, Nat.reduceMul, Nat.reduceSub, Nat.reduceLeDiff, Nat.reduceLT, Nat.reduceEqDiff, decide_eq_true_eq, Bool.false_eq_true, decide_true, decide_false, cond_true, cond_false, Bool.not_true, Bool.not_false, List.replicate_succ, List.replicate_zero]
      exact hk' _ _ _ _ _ _ hop (mem3 _ hy) (mem3 _ hx) ⟨by omega, by omega⟩
end
end Go.Am.Try

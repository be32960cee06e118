/- The law on the steps of a place, by the machine. -/
import Derived.Test.YteboddabjocpoaaEI8
set_option linter.all false
namespace Go.Am.Try
open Go Go.Am
section
variable {k : Nat} {H : Heap} {K : V → Heap → Prop}

theorem ok_l0 {N : Nat} {es : List (List V)} (hes : ∀ c ∈ es, StepRight c) {k1 : List V → Heap → Prop} {K : V → Heap → Prop} (hk : k1 [] H) : ∀ (d i n : Nat), es.length - i = d → d < n → i ≤ es.length → es.length ≤ 8000 →
    dLoop n (laws_FnEmitIns_l0 (CC (k + 10)) N (.tl false 5 es) k1 K) [.i .i64 i] H := by
  intro d
  induction d with
  | zero =>
    intro i n hd hn' hi hl
    obtain ⟨n, rfl⟩ : ∃ m, n = m + 1 := ⟨n - 1, by omega⟩
    simp only [dLoop]
    rw [laws_FnEmitIns_l0]
    have h1 : ¬ (i : Int) < es.length := by omega
    simp only [am, amV, amM, amH, amL, amC, and_self, if_true, if_false, Nat.reduceAdd, Nat.reduceMul, Nat.reduceLeDiff, Nat.reduceLT, Nat.reduceEqDiff, decide_eq_true_eq, Bool.false_eq_true, decide_true, decide_false, cond_true, cond_false, Bool.not_true, Bool.not_false, h1]
    exact hk
  | succ d ih =>
    intro i n hd hn' hi hl
    obtain ⟨n, rfl⟩ : ∃ m, n = m + 1 := ⟨n - 1, by omega⟩
    simp only [dLoop]
    rw [laws_FnEmitIns_l0]
    have h1 : (i : Int) < es.length := by omega
    simp only [am, amV, amM, amH, amL, amC, and_self, if_true, if_false, Nat.reduceAdd, Nat.reduceMul, Nat.reduceLeDiff, Nat.reduceLT, Nat.reduceEqDiff, decide_eq_true_eq, Bool.false_eq_true, decide_true, decide_false, cond_true, cond_false, Bool.not_true, Bool.not_false, h1]
    rw [idx_tl (by omega) (by omega)]
    have hc := hes _ (List.getElem_mem (n := ((i : Int)).toNat) (h := by omega))
    have hs := StepOk_ok hc (k := k) (m := 900) (H := H) (K := fun x33 H => dOpt (unV .not x33) fun x34 => dIf x34 (fun k8 => K (.b false) H) (fun k8 => k8 [] H) fun s H => dOpt (binV .add (.i .i64 i) (.i .i64 1)) fun x28 => dLoop n (laws_FnEmitIns_l0 (CC (k + 10)) N (.tl false 5 es) k1 K) [x28] H)
    obtain ⟨o, r, a, b, n', he, _⟩ := hc
    rw [he] at hs ⊢
    simp only [am, amV, amM, amH, amL, amC, amX, amS, and_self, if_true, if_false, and_true, true_and, Nat.reduceAdd, Nat.reduceMul, Nat.reduceSub, Nat.reduceLeDiff, Nat.reduceLT, Nat.reduceEqDiff, decide_eq_true_eq, Bool.false_eq_true, decide_true, decide_false, cond_true, cond_false, Bool.not_true, Bool.not_false, List.replicate_succ, List.replicate_zero, stC] at hs ⊢
    rw [hs, w64_succ (by omega)]
    exact ih (i + 1) n (by omega) (by omega) (by omega) hl

theorem right_step {c : List V} (h : StepRight c) : IsStep c := by
  obtain ⟨o, r, a, b, n, he, _⟩ := h
  exact ⟨o, r, a, b, n, he⟩

theorem FnEmitIns_ok {w : Bool} {code : List Int} (hb : 8192 ≤ k) (hk : ∀ H', K (.b true) H') : CC (k + 20) 4 [.tl w 1 (by_ code)] [] K := by
  rw [c_laws_FnEmitIns]
  unfold laws_FnEmitIns
  rw [big_ok]
  simp only [am, amV, amM, amH, amL, amC, and_self, if_true, if_false, Nat.reduceAdd, Nat.reduceMul, Nat.reduceLeDiff, Nat.reduceLT, Nat.reduceEqDiff, decide_eq_true_eq, Bool.false_eq_true, decide_true, decide_false, cond_true, cond_false, Bool.not_true, Bool.not_false]
  split
  · exact hk _
  · have hc : code.length ≤ 1152921504606846976 := by omega
    refine DrawEmitIns_ok (k := k + 13) hc (by omega) fun op d a b n hop hd ha hbb => ?_
    have ho : -1000 ≤ op ∧ op ≤ 1000 := by
      unfold insOps at hop
      simp only [List.mem_cons, List.not_mem_nil, or_false] at hop
      omega
    simp only [am, amV, amM, amH, amL, amC, amX, amS, and_self, if_true, if_false, and_true, true_and, Nat.reduceAdd, Nat.reduceMul, Nat.reduceSub, Nat.reduceLeDiff, Nat.reduceLT, Nat.reduceEqDiff, decide_eq_true_eq, Bool.false_eq_true, decide_true, decide_false, cond_true, cond_false, Bool.not_true, Bool.not_false, List.replicate_succ, List.replicate_zero, EmitIns_ok ho (show d ≤ 1000 by omega) (show a ≤ 1000 by omega) (show b ≤ 1000 by omega), spec_EmitIns_ok ho (show d ≤ 1000 by omega) (show a ≤ 1000 by omega) (show b ≤ 1000 by omega)]
    have hR : EmitRight op d (emitL op d a b n) := emit_right
    generalize emitL op d a b n = es at hR
    refine sameSteps_ok (k := k + 18) (fun c h => right_step (hR.right c h)) (by have := hR.len; omega) (by omega) ?_
    have h4 : ¬ (es.length : Int) > 4 := by have := hR.len; omega
    simp only [am, amV, amM, amH, amL, amC, amX, amS, and_self, if_true, if_false, and_true, true_and, Nat.reduceAdd, Nat.reduceMul, Nat.reduceSub, Nat.reduceLeDiff, Nat.reduceLT, Nat.reduceEqDiff, decide_eq_true_eq, Bool.false_eq_true, decide_true, decide_false, cond_true, cond_false, Bool.not_true, Bool.not_false, List.replicate_succ, List.replicate_zero, h4]
    refine ok_l0 (k := k + 9) hR.right ?_ es.length 0 (k + 19) rfl (by have := hR.len; omega) (Nat.zero_le _) (by have := hR.len; omega)
    by_cases h0 : (es.length : Int) = 0
    · simp only [am, amV, amM, amH, amL, amC, amX, amS, and_self, if_true, if_false, and_true, true_and, Nat.reduceAdd, Nat.reduceMul, Nat.reduceSub, Nat.reduceLeDiff, Nat.reduceLT, Nat.reduceEqDiff, decide_eq_true_eq, Bool.false_eq_true, decide_true, decide_false, cond_true, cond_false, Bool.not_true, Bool.not_false, List.replicate_succ, List.replicate_zero, h0]
      exact hk _
    · simp only [am, amV, amM, amH, amL, amC, amX, amS, and_self, if_true, if_false, and_true, true_and, Nat.reduceAdd, Nat.reduceMul, Nat.reduceSub, Nat.reduceLeDiff, Nat.reduceLT, Nat.reduceEqDiff, decide_eq_true_eq, Bool.false_eq_true, decide_true, decide_false, cond_true, cond_false, Bool.not_true, Bool.not_false, List.replicate_succ, List.replicate_zero, h0, InsDef_ok]
      cases hD : hasP op 68 with
      | false =>
        simp only [am, amV, amM, amH, amL, amC, amX, amS, and_self, if_true, if_false, and_true, true_and, Nat.reduceAdd, Nat.reduceMul, Nat.reduceSub, Nat.reduceLeDiff, Nat.reduceLT, Nat.reduceEqDiff, decide_eq_true_eq, Bool.false_eq_true, decide_true, decide_false, cond_true, cond_false, Bool.not_true, Bool.not_false, List.replicate_succ, List.replicate_zero, Int.reduceLT, Int.reduceNeg]
        exact hk _
      | true =>
        by_cases hd0 : d < 0
        · simp only [am, amV, amM, amH, amL, amC, amX, amS, and_self, if_true, if_false, and_true, true_and, Nat.reduceAdd, Nat.reduceMul, Nat.reduceSub, Nat.reduceLeDiff, Nat.reduceLT, Nat.reduceEqDiff, decide_eq_true_eq, Bool.false_eq_true, decide_true, decide_false, cond_true, cond_false, Bool.not_true, Bool.not_false, List.replicate_succ, List.replicate_zero, hd0]
          exact hk _
        · obtain ⟨i, o, r, a', b', n', he, hlt, hge⟩ := hR.last (fun e => h0 (by rw [e]; rfl)) hD
          have hw : IntKind.i64.wrap ((es.length : Int) - 1) = (i.length : Int) := by
            rw [he, List.length_append]
            have : i.length ≤ 4 := by have := hR.len; rw [he, List.length_append] at this; omega
            rw [w64 (by simp only [List.length_cons, List.length_nil]; omega) (by simp only [List.length_cons, List.length_nil]; omega)]
            simp only [List.length_cons, List.length_nil]; omega
          have hix : indexA 5 (.tl false 5 es) (.i .i64 (i.length : Int)) = some (.pe (stC o r a' b' n')) := by
            rw [idx_tl (by omega) (by rw [he]; simp)]
            simp [he]
          simp only [am, amV, amM, amH, amL, amC, amX, amS, and_self, if_true, if_false, and_true, true_and, Nat.reduceAdd, Nat.reduceMul, Nat.reduceSub, Nat.reduceLeDiff, Nat.reduceLT, Nat.reduceEqDiff, decide_eq_true_eq, Bool.false_eq_true, decide_true, decide_false, cond_true, cond_false, Bool.not_true, Bool.not_false, List.replicate_succ, List.replicate_zero, hd0, hw, hix, stC]
          by_cases hd4 : d < 4
          · obtain ⟨e1, e2⟩ := hlt hd4
            simp only [am, amV, amM, amH, amL, amC, amX, amS, and_self, if_true, if_false, and_true, true_and, Nat.reduceAdd, Nat.reduceMul, Nat.reduceSub, Nat.reduceLeDiff, Nat.reduceLT, Nat.reduceEqDiff, decide_eq_true_eq, Bool.false_eq_true, decide_true, decide_false, cond_true, cond_false, Bool.not_true, Bool.not_false, List.replicate_succ, List.replicate_zero, hd4, e1, e2]
            exact hk _
          · obtain ⟨e1, e2⟩ := hge hd4
            have h9 : IntKind.i64.wrap (d - 4) = d - 4 := w64 (by omega) (by omega)
            simp only [am, amV, amM, amH, amL, amC, amX, amS, and_self, if_true, if_false, and_true, true_and, Nat.reduceAdd, Nat.reduceMul, Nat.reduceSub, Nat.reduceLeDiff, Nat.reduceLT, Nat.reduceEqDiff, decide_eq_true_eq, Bool.false_eq_true, decide_true, decide_false, cond_true, cond_false, Bool.not_true, Bool.not_false, List.replicate_succ, List.replicate_zero, hd4, e1, e2, h9]
            exact hk _
end
end Go.Am.Try

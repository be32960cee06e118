/- The steps of a place of a list, as the program makes them. -/
import Derived.Test.YteboddabjocpoaaEI2
set_option linter.all false
namespace Go.Am.Try
open Go Go.Am

def stC (o r a b n : Int) : List V := [.i .i64 o, .i .i64 r, .i .i64 a, .i .i64 b, .i .i64 n]
/-- The steps that take a home, and the register. -/
def tkL (h b : Int) : List (List V) := if h < 4 then [] else [stC 3 b 0 0 (h - 4)]
def tkR (h b : Int) : Int := if h < 4 then h else b
def copyL (d a : Int) : List (List V) := if d < 4 ∧ a < 4 then [stC 2 d a 0 0] else if d < 4 then [stC 3 d 0 0 (a - 4)] else tkL a 4 ++ [stC 4 0 (tkR a 4) 0 (d - 4)]
def stepOfL (op n r a b : Int) : List V := if op = 20 then stC 1 r 0 0 n else if op = 21 then stC 5 r a 0 0 else if op = 22 then stC 6 0 a b 0 else if op = 23 then stC 7 0 a 0 0 else if op = 24 then stC 8 r 0 0 0 else stC (op + 11) r a b 0
def regD (op d : Int) : Int := if hasP op 68 = true then (if d ≥ 4 then 6 else d) else 0
def emitL (op d a b n : Int) : List (List V) :=
  if homedP op d a b = true then
    if op = 25 then copyL d a else
    (if hasP op 65 = true then tkL a 4 else []) ++ (if hasP op 66 = true then tkL b 5 else []) ++
      [stepOfL op n (regD op d) (if hasP op 65 = true then tkR a 4 else 0) (if hasP op 66 = true then tkR b 5 else 0)] ++ (if regD op d = 6 then [stC 4 0 6 0 (d - 4)] else [])
  else []

section
variable {k : Nat} {H : Heap} {K : V → Heap → Prop}

theorem emitCopy_ok {op d a b n : Int} (hd : d ≤ 1000) (ha : a ≤ 1000) : CC (k + 2) 61 [insV op d a b n] H K = K (.tl false 5 (copyL d a)) H := by
  rw [c_impl_emitCopy (x0s := insV op d a b n) _ _ _ (by simp only [am, amV, amM, amH, amL, amC, and_self, if_true, if_false, Nat.reduceAdd, Nat.reduceMul, Nat.reduceLeDiff, Nat.reduceLT, Nat.reduceEqDiff, decide_eq_true_eq, Bool.false_eq_true, decide_true, decide_false, cond_true, cond_false, Bool.not_true, Bool.not_false, amS])]
  unfold impl_emitCopy copyL
  by_cases h1 : d < 4
  · by_cases h2 : a < 4
    · simp only [am, amV, amM, amH, amL, amC, amX, amS, and_self, if_true, if_false, and_true, true_and, Nat.reduceAdd, Nat.reduceMul, Nat.reduceSub, Nat.reduceLeDiff, Nat.reduceLT, Nat.reduceEqDiff, decide_eq_true_eq, Bool.false_eq_true, decide_true, decide_false, cond_true, cond_false, Bool.not_true, Bool.not_false, List.replicate_succ, List.replicate_zero, h1, h2]
      rw [back_seal rfl (by simp only [am, amV, amM, amH, amL, amC, amX, amS, and_self, if_true, if_false, and_true, true_and, Nat.reduceAdd, Nat.reduceMul, Nat.reduceSub, Nat.reduceLeDiff, Nat.reduceLT, Nat.reduceEqDiff, decide_eq_true_eq, Bool.false_eq_true, decide_true, decide_false, cond_true, cond_false, Bool.not_true, Bool.not_false, List.replicate_succ, List.replicate_zero, g_impl_emitCopy]; rfl)]
      rfl
    · simp only [am, amV, amM, amH, amL, amC, amX, amS, and_self, if_true, if_false, and_true, true_and, Nat.reduceAdd, Nat.reduceMul, Nat.reduceSub, Nat.reduceLeDiff, Nat.reduceLT, Nat.reduceEqDiff, decide_eq_true_eq, Bool.false_eq_true, decide_true, decide_false, cond_true, cond_false, Bool.not_true, Bool.not_false, List.replicate_succ, List.replicate_zero, h1, h2]
      rw [back_seal rfl (by simp only [am, amV, amM, amH, amL, amC, amX, amS, and_self, if_true, if_false, and_true, true_and, Nat.reduceAdd, Nat.reduceMul, Nat.reduceSub, Nat.reduceLeDiff, Nat.reduceLT, Nat.reduceEqDiff, decide_eq_true_eq, Bool.false_eq_true, decide_true, decide_false, cond_true, cond_false, Bool.not_true, Bool.not_false, List.replicate_succ, List.replicate_zero, g_impl_emitCopy]; rfl), w64 (by omega) (by omega)]
      rfl
  · have h3 : IntKind.i64.wrap (d - 4) = d - 4 := w64 (by omega) (by omega)
    by_cases h2 : a < 4
    · simp only [am, amV, amM, amH, amL, amC, amX, amS, and_self, if_true, if_false, and_true, true_and, Nat.reduceAdd, Nat.reduceMul, Nat.reduceSub, Nat.reduceLeDiff, Nat.reduceLT, Nat.reduceEqDiff, decide_eq_true_eq, Bool.false_eq_true, decide_true, decide_false, cond_true, cond_false, Bool.not_true, Bool.not_false, List.replicate_succ, List.replicate_zero, h1, h2, taken_ok ha, tkL, tkR, h3]
      rw [back_seal rfl (by simp only [am, amV, amM, amH, amL, amC, amX, amS, and_self, if_true, if_false, and_true, true_and, Nat.reduceAdd, Nat.reduceMul, Nat.reduceSub, Nat.reduceLeDiff, Nat.reduceLT, Nat.reduceEqDiff, decide_eq_true_eq, Bool.false_eq_true, decide_true, decide_false, cond_true, cond_false, Bool.not_true, Bool.not_false, List.replicate_succ, List.replicate_zero, g_impl_emitCopy]; rfl)]
      rfl
    · simp only [am, amV, amM, amH, amL, amC, amX, amS, and_self, if_true, if_false, and_true, true_and, Nat.reduceAdd, Nat.reduceMul, Nat.reduceSub, Nat.reduceLeDiff, Nat.reduceLT, Nat.reduceEqDiff, decide_eq_true_eq, Bool.false_eq_true, decide_true, decide_false, cond_true, cond_false, Bool.not_true, Bool.not_false, List.replicate_succ, List.replicate_zero, h1, h2, taken_ok ha, tkL, tkR, stC, h3]
      rw [back_seal rfl (by simp only [am, amV, amM, amH, amL, amC, amX, amS, and_self, if_true, if_false, and_true, true_and, Nat.reduceAdd, Nat.reduceMul, Nat.reduceSub, Nat.reduceLeDiff, Nat.reduceLT, Nat.reduceEqDiff, decide_eq_true_eq, Bool.false_eq_true, decide_true, decide_false, cond_true, cond_false, Bool.not_true, Bool.not_false, List.replicate_succ, List.replicate_zero, g_impl_emitCopy]; rfl)]

theorem stepOf_ok {op d a b n r ra rb : Int} (ho : -1000 ≤ op ∧ op ≤ 1000) : CC (k + 1) 64 [insV op d a b n, .i .i64 r, .i .i64 ra, .i .i64 rb] H K = K (.agg (stepOfL op n r ra rb)) H := by
  rw [c_impl_stepOf (x0s := insV op d a b n) (x1s := .i .i64 r) (x2s := .i .i64 ra) (x3s := .i .i64 rb) _ _ _ (by simp only [am, amV, amM, amH, amL, amC, and_self, if_true, if_false, Nat.reduceAdd, Nat.reduceMul, Nat.reduceLeDiff, Nat.reduceLT, Nat.reduceEqDiff, decide_eq_true_eq, Bool.false_eq_true, decide_true, decide_false, cond_true, cond_false, Bool.not_true, Bool.not_false, amS])]
  unfold impl_stepOf stepOfL
  by_cases h1 : op = 20
  · simp only [am, amV, amM, amH, amL, amC, amX, amS, and_self, if_true, if_false, and_true, true_and, Nat.reduceAdd, Nat.reduceMul, Nat.reduceSub, Nat.reduceLeDiff, Nat.reduceLT, Nat.reduceEqDiff, decide_eq_true_eq, Bool.false_eq_true, decide_true, decide_false, cond_true, cond_false, Bool.not_true, Bool.not_false, List.replicate_succ, List.replicate_zero, h1, Int.reduceEq]; rw [back_seal rfl (by simp only [am, amV, amM, amH, amL, amC, amX, amS, and_self, if_true, if_false, and_true, true_and, Nat.reduceAdd, Nat.reduceMul, Nat.reduceSub, Nat.reduceLeDiff, Nat.reduceLT, Nat.reduceEqDiff, decide_eq_true_eq, Bool.false_eq_true, decide_true, decide_false, cond_true, cond_false, Bool.not_true, Bool.not_false, List.replicate_succ, List.replicate_zero, g_impl_stepOf]; rfl)]; rfl
  by_cases h2 : op = 21
  · simp only [am, amV, amM, amH, amL, amC, amX, amS, and_self, if_true, if_false, and_true, true_and, Nat.reduceAdd, Nat.reduceMul, Nat.reduceSub, Nat.reduceLeDiff, Nat.reduceLT, Nat.reduceEqDiff, decide_eq_true_eq, Bool.false_eq_true, decide_true, decide_false, cond_true, cond_false, Bool.not_true, Bool.not_false, List.replicate_succ, List.replicate_zero, h2, Int.reduceEq]; rw [back_seal rfl (by simp only [am, amV, amM, amH, amL, amC, amX, amS, and_self, if_true, if_false, and_true, true_and, Nat.reduceAdd, Nat.reduceMul, Nat.reduceSub, Nat.reduceLeDiff, Nat.reduceLT, Nat.reduceEqDiff, decide_eq_true_eq, Bool.false_eq_true, decide_true, decide_false, cond_true, cond_false, Bool.not_true, Bool.not_false, List.replicate_succ, List.replicate_zero, g_impl_stepOf]; rfl)]; rfl
  by_cases h3 : op = 22
  · simp only [am, amV, amM, amH, amL, amC, amX, amS, and_self, if_true, if_false, and_true, true_and, Nat.reduceAdd, Nat.reduceMul, Nat.reduceSub, Nat.reduceLeDiff, Nat.reduceLT, Nat.reduceEqDiff, decide_eq_true_eq, Bool.false_eq_true, decide_true, decide_false, cond_true, cond_false, Bool.not_true, Bool.not_false, List.replicate_succ, List.replicate_zero, h3, Int.reduceEq]; rw [back_seal rfl (by simp only [am, amV, amM, amH, amL, amC, amX, amS, and_self, if_true, if_false, and_true, true_and, Nat.reduceAdd, Nat.reduceMul, Nat.reduceSub, Nat.reduceLeDiff, Nat.reduceLT, Nat.reduceEqDiff, decide_eq_true_eq, Bool.false_eq_true, decide_true, decide_false, cond_true, cond_false, Bool.not_true, Bool.not_false, List.replicate_succ, List.replicate_zero, g_impl_stepOf]; rfl)]; rfl
  by_cases h4 : op = 23
  · simp only [am, amV, amM, amH, amL, amC, amX, amS, and_self, if_true, if_false, and_true, true_and, Nat.reduceAdd, Nat.reduceMul, Nat.reduceSub, Nat.reduceLeDiff, Nat.reduceLT, Nat.reduceEqDiff, decide_eq_true_eq, Bool.false_eq_true, decide_true, decide_false, cond_true, cond_false, Bool.not_true, Bool.not_false, List.replicate_succ, List.replicate_zero, h4, Int.reduceEq]; rw [back_seal rfl (by simp only [am, amV, amM, amH, amL, amC, amX, amS, and_self, if_true, if_false, and_true, true_and, Nat.reduceAdd, Nat.reduceMul, Nat.reduceSub, Nat.reduceLeDiff, Nat.reduceLT, Nat.reduceEqDiff, decide_eq_true_eq, Bool.false_eq_true, decide_true, decide_false, cond_true, cond_false, Bool.not_true, Bool.not_false, List.replicate_succ, List.replicate_zero, g_impl_stepOf]; rfl)]; rfl
  by_cases h5 : op = 24
  · simp only [am, amV, amM, amH, amL, amC, amX, amS, and_self, if_true, if_false, and_true, true_and, Nat.reduceAdd, Nat.reduceMul, Nat.reduceSub, Nat.reduceLeDiff, Nat.reduceLT, Nat.reduceEqDiff, decide_eq_true_eq, Bool.false_eq_true, decide_true, decide_false, cond_true, cond_false, Bool.not_true, Bool.not_false, List.replicate_succ, List.replicate_zero, h5, Int.reduceEq]; rw [back_seal rfl (by simp only [am, amV, amM, amH, amL, amC, amX, amS, and_self, if_true, if_false, and_true, true_and, Nat.reduceAdd, Nat.reduceMul, Nat.reduceSub, Nat.reduceLeDiff, Nat.reduceLT, Nat.reduceEqDiff, decide_eq_true_eq, Bool.false_eq_true, decide_true, decide_false, cond_true, cond_false, Bool.not_true, Bool.not_false, List.replicate_succ, List.replicate_zero, g_impl_stepOf]; rfl)]; rfl
  simp only [am, amV, amM, amH, amL, amC, amX, amS, and_self, if_true, if_false, and_true, true_and, Nat.reduceAdd, Nat.reduceMul, Nat.reduceSub, Nat.reduceLeDiff, Nat.reduceLT, Nat.reduceEqDiff, decide_eq_true_eq, Bool.false_eq_true, decide_true, decide_false, cond_true, cond_false, Bool.not_true, Bool.not_false, List.replicate_succ, List.replicate_zero, h1, h2, h3, h4, h5]
  rw [back_seal rfl (by simp only [am, amV, amM, amH, amL, amC, amX, amS, and_self, if_true, if_false, and_true, true_and, Nat.reduceAdd, Nat.reduceMul, Nat.reduceSub, Nat.reduceLeDiff, Nat.reduceLT, Nat.reduceEqDiff, decide_eq_true_eq, Bool.false_eq_true, decide_true, decide_false, cond_true, cond_false, Bool.not_true, Bool.not_false, List.replicate_succ, List.replicate_zero, g_impl_stepOf]; rfl), w64 (by omega) (by omega)]
  rfl

/-- Steps. -/
def IsStep (c : List V) : Prop := ∃ o r a b n, c = stC o r a b n
theorem seal_steps {w o l : Bool} {H : Heap} {es : List (List V)} (h : ∀ c ∈ es, IsStep c) : allM (sealCs w o l H [.at_, .at_, .at_, .at_, .at_]) es = some es := by
  induction es with
  | nil => rfl
  | cons c es ih =>
    obtain ⟨o, r, a, b, n, rfl⟩ := h c (by simp)
    rw [allM_cons, ih fun c hc => h c (by simp [hc])]
    simp only [am, amV, amM, amH, amL, amC, amX, amS, and_self, if_true, if_false, and_true, true_and, Nat.reduceAdd, Nat.reduceMul, Nat.reduceSub, Nat.reduceLeDiff, Nat.reduceLT, Nat.reduceEqDiff, decide_eq_true_eq, Bool.false_eq_true, decide_true, decide_false, cond_true, cond_false, Bool.not_true, Bool.not_false, List.replicate_succ, List.replicate_zero, stC]
theorem tkL_st (h b : Int) : ∀ c ∈ tkL h b, IsStep c := by
  unfold tkL
  split
  · simp
  · intro c hc; simp only [List.mem_cons, List.not_mem_nil, or_false] at hc; exact ⟨_, _, _, _, _, hc⟩
theorem copyL_st (d a : Int) : ∀ c ∈ copyL d a, IsStep c := by
  unfold copyL
  split
  · intro c hc; simp only [List.mem_cons, List.not_mem_nil, or_false] at hc; exact ⟨_, _, _, _, _, hc⟩
  split
  · intro c hc; simp only [List.mem_cons, List.not_mem_nil, or_false] at hc; exact ⟨_, _, _, _, _, hc⟩
  intro c hc
  rcases List.mem_append.1 hc with h | h
  · exact tkL_st _ _ c h
  · simp only [List.mem_cons, List.not_mem_nil, or_false] at h; exact ⟨_, _, _, _, _, h⟩
theorem stepOfL_st (op n r a b : Int) : IsStep (stepOfL op n r a b) := by
  unfold stepOfL
  repeat' split
  all_goals exact ⟨_, _, _, _, _, rfl⟩
theorem stepOfL_len (op n r a b : Int) : (stepOfL op n r a b).length = 5 := by obtain ⟨_, _, _, _, _, h⟩ := stepOfL_st op n r a b; rw [h]; rfl
theorem stepOfL_all (op n r a b : Int) : (stepOfL op n r a b).all storable = true := by obtain ⟨_, _, _, _, _, h⟩ := stepOfL_st op n r a b; rw [h]; rfl
theorem seal_stepOf (w o l : Bool) (H : Heap) (op n r a b : Int) : sealCs w o l H [.at_, .at_, .at_, .at_, .at_] (stepOfL op n r a b) = some (stepOfL op n r a b) := by obtain ⟨_, _, _, _, _, h⟩ := stepOfL_st op n r a b; rw [h]; simp only [am, amV, amM, amH, amL, amC, amX, amS, and_self, if_true, if_false, and_true, true_and, Nat.reduceAdd, Nat.reduceMul, Nat.reduceSub, Nat.reduceLeDiff, Nat.reduceLT, Nat.reduceEqDiff, decide_eq_true_eq, Bool.false_eq_true, decide_true, decide_false, cond_true, cond_false, Bool.not_true, Bool.not_false, List.replicate_succ, List.replicate_zero, stC]

set_option maxHeartbeats 8000000 in
theorem EmitIns_ok {op d a b n : Int} (ho : -1000 ≤ op ∧ op ≤ 1000) (hd : d ≤ 1000) (ha : a ≤ 1000) (hb : b ≤ 1000) : CC (k + 12) 18 [insV op d a b n] H K = K (.tl false 5 (emitL op d a b n)) H := by
  rw [c_impl_EmitIns (x0s := insV op d a b n) _ _ _ (by simp only [am, amV, amM, amH, amL, amC, and_self, if_true, if_false, Nat.reduceAdd, Nat.reduceMul, Nat.reduceLeDiff, Nat.reduceLT, Nat.reduceEqDiff, decide_eq_true_eq, Bool.false_eq_true, decide_true, decide_false, cond_true, cond_false, Bool.not_true, Bool.not_false, amS])]
  unfold impl_EmitIns emitL
  cases h1 : homedP op d a b with
  | false =>
    simp only [am, amV, amM, amH, amL, amC, amX, amS, and_self, if_true, if_false, and_true, true_and, Nat.reduceAdd, Nat.reduceMul, Nat.reduceSub, Nat.reduceLeDiff, Nat.reduceLT, Nat.reduceEqDiff, decide_eq_true_eq, Bool.false_eq_true, decide_true, decide_false, cond_true, cond_false, Bool.not_true, Bool.not_false, List.replicate_succ, List.replicate_zero, homed_ok, h1]
    rw [back_seal rfl (by simp only [am, amV, amM, amH, amL, amC, amX, amS, and_self, if_true, if_false, and_true, true_and, Nat.reduceAdd, Nat.reduceMul, Nat.reduceSub, Nat.reduceLeDiff, Nat.reduceLT, Nat.reduceEqDiff, decide_eq_true_eq, Bool.false_eq_true, decide_true, decide_false, cond_true, cond_false, Bool.not_true, Bool.not_false, List.replicate_succ, List.replicate_zero, g_impl_EmitIns]; rfl)]
  | true =>
    by_cases h2 : op = 25
    · subst h2
      simp only [am, amV, amM, amH, amL, amC, amX, amS, and_self, if_true, if_false, and_true, true_and, Nat.reduceAdd, Nat.reduceMul, Nat.reduceSub, Nat.reduceLeDiff, Nat.reduceLT, Nat.reduceEqDiff, decide_eq_true_eq, Bool.false_eq_true, decide_true, decide_false, cond_true, cond_false, Bool.not_true, Bool.not_false, List.replicate_succ, List.replicate_zero, homed_ok, h1, emitCopy_ok hd ha]
      rw [back_seal rfl (by simp only [am, amV, amM, amH, amL, amC, amX, amS, and_self, if_true, if_false, and_true, true_and, Nat.reduceAdd, Nat.reduceMul, Nat.reduceSub, Nat.reduceLeDiff, Nat.reduceLT, Nat.reduceEqDiff, decide_eq_true_eq, Bool.false_eq_true, decide_true, decide_false, cond_true, cond_false, Bool.not_true, Bool.not_false, List.replicate_succ, List.replicate_zero, g_impl_EmitIns]; rw [seal_steps (copyL_st d a)]; rfl)]
    · have hA : hasP op 65 = false ∨ (hasP op 65 = true ∧ a < 4) ∨ (hasP op 65 = true ∧ ¬ a < 4) := by cases hasP op 65 <;> simp <;> omega
      have hB : hasP op 66 = false ∨ (hasP op 66 = true ∧ b < 4) ∨ (hasP op 66 = true ∧ ¬ b < 4) := by cases hasP op 66 <;> simp <;> omega
      have hD : hasP op 68 = false ∨ (hasP op 68 = true ∧ ¬ d ≥ 4 ∧ ¬ d = 6) ∨ (hasP op 68 = true ∧ d ≥ 4) := by cases hasP op 68 <;> simp <;> omega
      have h9 : d ≥ 4 → IntKind.i64.wrap (d - 4) = d - 4 := fun h => w64 (by omega) (by omega)
      rcases hA with h3 | ⟨h3, h6⟩ | ⟨h3, h6⟩ <;> rcases hB with h4 | ⟨h4, h7⟩ | ⟨h4, h7⟩ <;> rcases hD with h5 | ⟨h5, h8, h10⟩ | ⟨h5, h8⟩
      all_goals
        simp only [am, amV, amM, amH, amL, amC, amX, amS, and_self, if_true, if_false, and_true, true_and, Nat.reduceAdd, Nat.reduceMul, Nat.reduceSub, Nat.reduceLeDiff, Nat.reduceLT, Nat.reduceEqDiff, decide_eq_true_eq, Bool.false_eq_true, decide_true, decide_false, cond_true, cond_false, Bool.not_true, Bool.not_false, List.replicate_succ, List.replicate_zero, homed_ok, has_ok, taken_ok ha, taken_ok hb, stepOf_ok ho, stepOfL_len, stepOfL_all, regD, Int.reduceEq, tkL, tkR, *]
        rw [back_seal rfl (by simp only [am, amV, amM, amH, amL, amC, amX, amS, and_self, if_true, if_false, and_true, true_and, Nat.reduceAdd, Nat.reduceMul, Nat.reduceSub, Nat.reduceLeDiff, Nat.reduceLT, Nat.reduceEqDiff, decide_eq_true_eq, Bool.false_eq_true, decide_true, decide_false, cond_true, cond_false, Bool.not_true, Bool.not_false, List.replicate_succ, List.replicate_zero, g_impl_EmitIns, seal_stepOf]; rfl)]
        try rfl
end
end Go.Am.Try

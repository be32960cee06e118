/- The reference's steps of a place are those of the program. -/
import Derived.Test.YteboddabjocpoaaEI4
set_option linter.all false
namespace Go.Am.Try
open Go Go.Am
section
variable {k : Nat} {H : Heap} {K : V → Heap → Prop}

/-- The kinds of a place. -/
theorem kinds (op : Int) : wordP op = true ∨ op = 20 ∨ op = 21 ∨ op = 22 ∨ op = 23 ∨ op = 24 ∨ op = 25 ∨ (formK op = false ∧ wordP op = false ∧ op ≠ 20 ∧ op ≠ 21 ∧ op ≠ 22 ∧ op ≠ 23 ∧ op ≠ 24 ∧ op ≠ 25) := by
  unfold formK
  cases wordP op
  · simp only [Bool.or_false, decide_eq_false_iff_not]; simp only [Bool.false_eq_true, false_or, true_and]; omega
  · exact .inl rfl
theorem homed_uses (op d a b : Int) (hf : formK op = true) : homedP op d a b = ((usesL op a b).all homeP && (!makesP op || homeP d)) := by
  unfold homedP usesL makesP
  rcases kinds op with h | h | h | h | h | h | h | h
  · obtain ⟨h1, h2, h3, h4, _⟩ := word_has h
    rw [h1, h2, h3, h4, h, if_pos (.inl rfl)]
    simp only [List.all_cons, List.all_nil]
    cases homeP a <;> cases homeP b <;> cases homeP d <;> rfl
  · subst h; cases ha : homeP a <;> cases hb : homeP b <;> cases hd : homeP d <;> simp [wordP, ha, hb, hd] <;> decide
  · subst h; cases ha : homeP a <;> cases hb : homeP b <;> cases hd : homeP d <;> simp [wordP, ha, hb, hd] <;> decide
  · subst h; cases ha : homeP a <;> cases hb : homeP b <;> cases hd : homeP d <;> simp [wordP, ha, hb, hd] <;> decide
  · subst h; cases ha : homeP a <;> cases hb : homeP b <;> cases hd : homeP d <;> simp [wordP, ha, hb, hd] <;> decide
  · subst h; cases ha : homeP a <;> cases hb : homeP b <;> cases hd : homeP d <;> simp [wordP, ha, hb, hd] <;> decide
  · subst h; cases ha : homeP a <;> cases hb : homeP b <;> cases hd : homeP d <;> simp [wordP, ha, hb, hd] <;> decide
  · rw [h.1] at hf; cases hf

theorem sEmit_zs {H' : Heap} : backD g_spec_EmitIns H K .zs H' = K (.tl false 5 []) H := by
  rw [back_seal rfl (by simp only [am, amV, amM, amH, amL, amC, amX, amS, and_self, if_true, if_false, and_true, true_and, Nat.reduceAdd, Nat.reduceMul, Nat.reduceSub, Nat.reduceLeDiff, Nat.reduceLT, Nat.reduceEqDiff, decide_eq_true_eq, Bool.false_eq_true, decide_true, decide_false, cond_true, cond_false, Bool.not_true, Bool.not_false, List.replicate_succ, List.replicate_zero, g_spec_EmitIns]; rfl)]

set_option maxHeartbeats 8000000 in
theorem spec_EmitIns_ok {op d a b n : Int} (ho : -1000 ≤ op ∧ op ≤ 1000) (hd : d ≤ 1000) (ha : a ≤ 1000) (hb : b ≤ 1000) : CC (k + 12) 20 [insV op d a b n] H K = K (.tl false 5 (emitL op d a b n)) H := by
  rw [c_spec_EmitIns (x0s := insV op d a b n) _ _ _ (by simp only [am, amV, amM, amH, amL, amC, and_self, if_true, if_false, Nat.reduceAdd, Nat.reduceMul, Nat.reduceLeDiff, Nat.reduceLT, Nat.reduceEqDiff, decide_eq_true_eq, Bool.false_eq_true, decide_true, decide_false, cond_true, cond_false, Bool.not_true, Bool.not_false, amS])]
  unfold spec_EmitIns
  simp only [am, amV, amM, amH, amL, amC, amX, amS, and_self, if_true, if_false, and_true, true_and, Nat.reduceAdd, Nat.reduceMul, Nat.reduceSub, Nat.reduceLeDiff, Nat.reduceLT, Nat.reduceEqDiff, decide_eq_true_eq, Bool.false_eq_true, decide_true, decide_false, cond_true, cond_false, Bool.not_true, Bool.not_false, List.replicate_succ, List.replicate_zero, InsUses_ok]
  rw [emit_all (k := k + 9) (by have := usesL_len op a b; omega) (by have := usesL_len op a b; omega)]
  cases hu : (usesL op a b).all homeP with
  | false =>
    have he : emitL op d a b n = [] := by
      unfold emitL
      cases hf : formK op with
      | false => unfold homedP; rw [hf]; rfl
      | true => rw [homed_uses _ _ _ _ hf, hu]; rfl
    simp only [am, amV, amM, amH, amL, amC, amX, amS, and_self, if_true, if_false, and_true, true_and, Nat.reduceAdd, Nat.reduceMul, Nat.reduceSub, Nat.reduceLeDiff, Nat.reduceLT, Nat.reduceEqDiff, decide_eq_true_eq, Bool.false_eq_true, decide_true, decide_false, cond_true, cond_false, Bool.not_true, Bool.not_false, List.replicate_succ, List.replicate_zero]
    rw [sEmit_zs, he]
  | true =>
    simp only [am, amV, amM, amH, amL, amC, amX, amS, and_self, if_true, if_false, and_true, true_and, Nat.reduceAdd, Nat.reduceMul, Nat.reduceSub, Nat.reduceLeDiff, Nat.reduceLT, Nat.reduceEqDiff, decide_eq_true_eq, Bool.false_eq_true, decide_true, decide_false, cond_true, cond_false, Bool.not_true, Bool.not_false, List.replicate_succ, List.replicate_zero, l2Makes_ok, l15Home_ok]
    cases hm : makesP op && !homeP d with
    | true =>
      have h1 : makesP op = true := by cases h : makesP op <;> simp [h] at hm ⊢
      have h2 : homeP d = false := by cases h : homeP d <;> simp [h] at hm ⊢
      have he : emitL op d a b n = [] := by
        unfold emitL
        cases hf : formK op with
        | false => unfold homedP; rw [hf]; rfl
        | true => rw [homed_uses _ _ _ _ hf, hu, h1, h2]; rfl
      simp only [am, amV, amM, amH, amL, amC, amX, amS, and_self, if_true, if_false, and_true, true_and, Nat.reduceAdd, Nat.reduceMul, Nat.reduceSub, Nat.reduceLeDiff, Nat.reduceLT, Nat.reduceEqDiff, decide_eq_true_eq, Bool.false_eq_true, decide_true, decide_false, cond_true, cond_false, Bool.not_true, Bool.not_false, List.replicate_succ, List.replicate_zero, h1, h2]
      rw [sEmit_zs, he]
    | false =>
      have hhd : formK op = true → homedP op d a b = true := by
        intro hf
        rw [homed_uses _ _ _ _ hf, hu]
        cases h1 : makesP op <;> cases h2 : homeP d <;> simp [h1, h2] at hm ⊢
      have hmd : makesP op = true → homeP d = true := by
        intro h1
        cases h2 : homeP d <;> simp [h1, h2] at hm ⊢
      have h9 : d ≥ 4 → IntKind.i64.wrap (d - 4) = d - 4 := fun h => w64 (by omega) (by omega)
      clear hu hm
      have c0 : ((0 : Nat) : Int) = 0 := rfl
      have c1 : ((1 : Nat) : Int) = 1 := rfl
      have c2 : ((2 : Nat) : Int) = 2 := rfl
      rcases kinds op with h | h | h | h | h | h | h | h
      · have wd := word_has h
        have u : usesL op a b = [a, b] := by unfold usesL; rw [if_pos (.inl h)]
        have m : makesP op = true := by unfold makesP; rw [h]; rfl
        have md := hmd m
        have p1 : hasP op 68 = true := by exact wd.2.1
        have p2 : hasP op 65 = true := by exact wd.2.2.1
        have p3 : hasP op 66 = true := by exact wd.2.2.2.1
        have hh := hhd (by exact wd.1)
        obtain ⟨-, -, -, -, n1, n2, n3, n4, n5, n6⟩ := wd
        have n7 : 11 + op = op + 11 := Int.add_comm _ _
        have n8 : IntKind.i64.wrap (op + 11) = op + 11 := w64 (by omega) (by omega)
        skip <;> by_cases qa : a < 4 <;> by_cases qb : b < 4 <;> by_cases qd : d < 4
        all_goals try have s6 : ¬ d = 6 := by omega
        all_goals try have sg : ¬ d ≥ 4 := by omega
        all_goals try have sg : d ≥ 4 := by omega
        all_goals try have s9 := h9 (by omega)
        all_goals
          simp only [am, amV, amM, amH, amL, amC, amX, amS, and_self, if_true, if_false, and_true, true_and, Nat.reduceAdd, Nat.reduceMul, Nat.reduceSub, Nat.reduceLeDiff, Nat.reduceLT, Nat.reduceEqDiff, decide_eq_true_eq, Bool.false_eq_true, decide_true, decide_false, cond_true, cond_false, Bool.not_true, Bool.not_false, List.replicate_succ, List.replicate_zero, l2Makes_ok, l15Home_ok, in_, List.map_cons, List.map_nil, l15Take_ok ha, l15Take_ok hb, c_spec_l15Give, spec_l15Give, l15Copy_ok hd ha, spec_WordOk_ok, Int.reduceEq, Int.reduceLT, Int.reduceGT, Int.ofNat_eq_natCast, Int.natCast_add, *]
          rw [back_seal rfl (by simp only [am, amV, amM, amH, amL, amC, amX, amS, and_self, if_true, if_false, and_true, true_and, Nat.reduceAdd, Nat.reduceMul, Nat.reduceSub, Nat.reduceLeDiff, Nat.reduceLT, Nat.reduceEqDiff, decide_eq_true_eq, Bool.false_eq_true, decide_true, decide_false, cond_true, cond_false, Bool.not_true, Bool.not_false, List.replicate_succ, List.replicate_zero, g_spec_EmitIns, seal_steps (copyL_st _ _)]; rfl)]
          simp only [emitL, regD, tkL, tkR, stepOfL, stC, Int.reduceEq, Bool.false_eq_true, if_true, if_false, List.nil_append, List.cons_append, *]
      · skip
        have u : usesL op a b = [] := by subst h; rfl
        have m : makesP op = true := by subst h; rfl
        have md := hmd m
        have p1 : hasP op 68 = true := by subst h; rfl
        have p2 : hasP op 65 = false := by subst h; rfl
        have p3 : hasP op 66 = false := by subst h; rfl
        have hh := hhd (by subst h; rfl)
        clear hhd hmd ho
        subst h
        skip <;> by_cases qd : d < 4
        all_goals try have s6 : ¬ d = 6 := by omega
        all_goals try have sg : ¬ d ≥ 4 := by omega
        all_goals try have sg : d ≥ 4 := by omega
        all_goals try have s9 := h9 (by omega)
        all_goals
          simp only [am, amV, amM, amH, amL, amC, amX, amS, and_self, if_true, if_false, and_true, true_and, Nat.reduceAdd, Nat.reduceMul, Nat.reduceSub, Nat.reduceLeDiff, Nat.reduceLT, Nat.reduceEqDiff, decide_eq_true_eq, Bool.false_eq_true, decide_true, decide_false, cond_true, cond_false, Bool.not_true, Bool.not_false, List.replicate_succ, List.replicate_zero, l2Makes_ok, l15Home_ok, in_, List.map_cons, List.map_nil, l15Take_ok ha, l15Take_ok hb, c_spec_l15Give, spec_l15Give, l15Copy_ok hd ha, spec_WordOk_ok, Int.reduceEq, Int.reduceLT, Int.reduceGT, Int.ofNat_eq_natCast, Int.natCast_add, *]
          rw [back_seal rfl (by simp only [am, amV, amM, amH, amL, amC, amX, amS, and_self, if_true, if_false, and_true, true_and, Nat.reduceAdd, Nat.reduceMul, Nat.reduceSub, Nat.reduceLeDiff, Nat.reduceLT, Nat.reduceEqDiff, decide_eq_true_eq, Bool.false_eq_true, decide_true, decide_false, cond_true, cond_false, Bool.not_true, Bool.not_false, List.replicate_succ, List.replicate_zero, g_spec_EmitIns, seal_steps (copyL_st _ _)]; rfl)]
          simp only [emitL, regD, tkL, tkR, stepOfL, stC, Int.reduceEq, Bool.false_eq_true, if_true, if_false, List.nil_append, List.cons_append, *]
      · skip
        have u : usesL op a b = [a] := by subst h; rfl
        have m : makesP op = true := by subst h; rfl
        have md := hmd m
        have p1 : hasP op 68 = true := by subst h; rfl
        have p2 : hasP op 65 = true := by subst h; rfl
        have p3 : hasP op 66 = false := by subst h; rfl
        have hh := hhd (by subst h; rfl)
        clear hhd hmd ho
        subst h
        skip <;> by_cases qa : a < 4 <;> by_cases qd : d < 4
        all_goals try have s6 : ¬ d = 6 := by omega
        all_goals try have sg : ¬ d ≥ 4 := by omega
        all_goals try have sg : d ≥ 4 := by omega
        all_goals try have s9 := h9 (by omega)
        all_goals
          simp only [am, amV, amM, amH, amL, amC, amX, amS, and_self, if_true, if_false, and_true, true_and, Nat.reduceAdd, Nat.reduceMul, Nat.reduceSub, Nat.reduceLeDiff, Nat.reduceLT, Nat.reduceEqDiff, decide_eq_true_eq, Bool.false_eq_true, decide_true, decide_false, cond_true, cond_false, Bool.not_true, Bool.not_false, List.replicate_succ, List.replicate_zero, l2Makes_ok, l15Home_ok, in_, List.map_cons, List.map_nil, l15Take_ok ha, l15Take_ok hb, c_spec_l15Give, spec_l15Give, l15Copy_ok hd ha, spec_WordOk_ok, Int.reduceEq, Int.reduceLT, Int.reduceGT, Int.ofNat_eq_natCast, Int.natCast_add, *]
          rw [back_seal rfl (by simp only [am, amV, amM, amH, amL, amC, amX, amS, and_self, if_true, if_false, and_true, true_and, Nat.reduceAdd, Nat.reduceMul, Nat.reduceSub, Nat.reduceLeDiff, Nat.reduceLT, Nat.reduceEqDiff, decide_eq_true_eq, Bool.false_eq_true, decide_true, decide_false, cond_true, cond_false, Bool.not_true, Bool.not_false, List.replicate_succ, List.replicate_zero, g_spec_EmitIns, seal_steps (copyL_st _ _)]; rfl)]
          simp only [emitL, regD, tkL, tkR, stepOfL, stC, Int.reduceEq, Bool.false_eq_true, if_true, if_false, List.nil_append, List.cons_append, *]
      · skip
        have u : usesL op a b = [a, b] := by subst h; rfl
        have m : makesP op = false := by subst h; rfl
        have p1 : hasP op 68 = false := by subst h; rfl
        have p2 : hasP op 65 = true := by subst h; rfl
        have p3 : hasP op 66 = true := by subst h; rfl
        have hh := hhd (by subst h; rfl)
        clear hhd hmd ho
        subst h
        skip <;> by_cases qa : a < 4 <;> by_cases qb : b < 4
        all_goals
          simp only [am, amV, amM, amH, amL, amC, amX, amS, and_self, if_true, if_false, and_true, true_and, Nat.reduceAdd, Nat.reduceMul, Nat.reduceSub, Nat.reduceLeDiff, Nat.reduceLT, Nat.reduceEqDiff, decide_eq_true_eq, Bool.false_eq_true, decide_true, decide_false, cond_true, cond_false, Bool.not_true, Bool.not_false, List.replicate_succ, List.replicate_zero, l2Makes_ok, l15Home_ok, in_, List.map_cons, List.map_nil, l15Take_ok ha, l15Take_ok hb, c_spec_l15Give, spec_l15Give, l15Copy_ok hd ha, spec_WordOk_ok, Int.reduceEq, Int.reduceLT, Int.reduceGT, Int.ofNat_eq_natCast, Int.natCast_add, *]
          rw [back_seal rfl (by simp only [am, amV, amM, amH, amL, amC, amX, amS, and_self, if_true, if_false, and_true, true_and, Nat.reduceAdd, Nat.reduceMul, Nat.reduceSub, Nat.reduceLeDiff, Nat.reduceLT, Nat.reduceEqDiff, decide_eq_true_eq, Bool.false_eq_true, decide_true, decide_false, cond_true, cond_false, Bool.not_true, Bool.not_false, List.replicate_succ, List.replicate_zero, g_spec_EmitIns, seal_steps (copyL_st _ _)]; rfl)]
          simp only [emitL, regD, tkL, tkR, stepOfL, stC, Int.reduceEq, Bool.false_eq_true, if_true, if_false, List.nil_append, List.cons_append, *]
      · skip
        have u : usesL op a b = [a] := by subst h; rfl
        have m : makesP op = false := by subst h; rfl
        have p1 : hasP op 68 = false := by subst h; rfl
        have p2 : hasP op 65 = true := by subst h; rfl
        have p3 : hasP op 66 = false := by subst h; rfl
        have hh := hhd (by subst h; rfl)
        clear hhd hmd ho
        subst h
        skip <;> by_cases qa : a < 4
        all_goals
          simp only [am, amV, amM, amH, amL, amC, amX, amS, and_self, if_true, if_false, and_true, true_and, Nat.reduceAdd, Nat.reduceMul, Nat.reduceSub, Nat.reduceLeDiff, Nat.reduceLT, Nat.reduceEqDiff, decide_eq_true_eq, Bool.false_eq_true, decide_true, decide_false, cond_true, cond_false, Bool.not_true, Bool.not_false, List.replicate_succ, List.replicate_zero, l2Makes_ok, l15Home_ok, in_, List.map_cons, List.map_nil, l15Take_ok ha, l15Take_ok hb, c_spec_l15Give, spec_l15Give, l15Copy_ok hd ha, spec_WordOk_ok, Int.reduceEq, Int.reduceLT, Int.reduceGT, Int.ofNat_eq_natCast, Int.natCast_add, *]
          rw [back_seal rfl (by simp only [am, amV, amM, amH, amL, amC, amX, amS, and_self, if_true, if_false, and_true, true_and, Nat.reduceAdd, Nat.reduceMul, Nat.reduceSub, Nat.reduceLeDiff, Nat.reduceLT, Nat.reduceEqDiff, decide_eq_true_eq, Bool.false_eq_true, decide_true, decide_false, cond_true, cond_false, Bool.not_true, Bool.not_false, List.replicate_succ, List.replicate_zero, g_spec_EmitIns, seal_steps (copyL_st _ _)]; rfl)]
          simp only [emitL, regD, tkL, tkR, stepOfL, stC, Int.reduceEq, Bool.false_eq_true, if_true, if_false, List.nil_append, List.cons_append, *]
      · skip
        have u : usesL op a b = [] := by subst h; rfl
        have m : makesP op = true := by subst h; rfl
        have md := hmd m
        have p1 : hasP op 68 = true := by subst h; rfl
        have p2 : hasP op 65 = false := by subst h; rfl
        have p3 : hasP op 66 = false := by subst h; rfl
        have hh := hhd (by subst h; rfl)
        clear hhd hmd ho
        subst h
        skip <;> by_cases qd : d < 4
        all_goals try have s6 : ¬ d = 6 := by omega
        all_goals try have sg : ¬ d ≥ 4 := by omega
        all_goals try have sg : d ≥ 4 := by omega
        all_goals try have s9 := h9 (by omega)
        all_goals
          simp only [am, amV, amM, amH, amL, amC, amX, amS, and_self, if_true, if_false, and_true, true_and, Nat.reduceAdd, Nat.reduceMul, Nat.reduceSub, Nat.reduceLeDiff, Nat.reduceLT, Nat.reduceEqDiff, decide_eq_true_eq, Bool.false_eq_true, decide_true, decide_false, cond_true, cond_false, Bool.not_true, Bool.not_false, List.replicate_succ, List.replicate_zero, l2Makes_ok, l15Home_ok, in_, List.map_cons, List.map_nil, l15Take_ok ha, l15Take_ok hb, c_spec_l15Give, spec_l15Give, l15Copy_ok hd ha, spec_WordOk_ok, Int.reduceEq, Int.reduceLT, Int.reduceGT, Int.ofNat_eq_natCast, Int.natCast_add, *]
          rw [back_seal rfl (by simp only [am, amV, amM, amH, amL, amC, amX, amS, and_self, if_true, if_false, and_true, true_and, Nat.reduceAdd, Nat.reduceMul, Nat.reduceSub, Nat.reduceLeDiff, Nat.reduceLT, Nat.reduceEqDiff, decide_eq_true_eq, Bool.false_eq_true, decide_true, decide_false, cond_true, cond_false, Bool.not_true, Bool.not_false, List.replicate_succ, List.replicate_zero, g_spec_EmitIns, seal_steps (copyL_st _ _)]; rfl)]
          simp only [emitL, regD, tkL, tkR, stepOfL, stC, Int.reduceEq, Bool.false_eq_true, if_true, if_false, List.nil_append, List.cons_append, *]
      · skip
        have u : usesL op a b = [a] := by subst h; rfl
        have m : makesP op = true := by subst h; rfl
        have md := hmd m
        have p1 : hasP op 68 = true := by subst h; rfl
        have p2 : hasP op 65 = true := by subst h; rfl
        have p3 : hasP op 66 = false := by subst h; rfl
        have hh := hhd (by subst h; rfl)
        clear hhd hmd ho
        subst h
        skip <;> by_cases qa : a < 4
        all_goals
          simp only [am, amV, amM, amH, amL, amC, amX, amS, and_self, if_true, if_false, and_true, true_and, Nat.reduceAdd, Nat.reduceMul, Nat.reduceSub, Nat.reduceLeDiff, Nat.reduceLT, Nat.reduceEqDiff, decide_eq_true_eq, Bool.false_eq_true, decide_true, decide_false, cond_true, cond_false, Bool.not_true, Bool.not_false, List.replicate_succ, List.replicate_zero, l2Makes_ok, l15Home_ok, in_, List.map_cons, List.map_nil, l15Take_ok ha, l15Take_ok hb, c_spec_l15Give, spec_l15Give, l15Copy_ok hd ha, spec_WordOk_ok, Int.reduceEq, Int.reduceLT, Int.reduceGT, Int.ofNat_eq_natCast, Int.natCast_add, *]
          rw [back_seal rfl (by simp only [am, amV, amM, amH, amL, amC, amX, amS, and_self, if_true, if_false, and_true, true_and, Nat.reduceAdd, Nat.reduceMul, Nat.reduceSub, Nat.reduceLeDiff, Nat.reduceLT, Nat.reduceEqDiff, decide_eq_true_eq, Bool.false_eq_true, decide_true, decide_false, cond_true, cond_false, Bool.not_true, Bool.not_false, List.replicate_succ, List.replicate_zero, g_spec_EmitIns, seal_steps (copyL_st _ _)]; rfl)]
          simp only [emitL, regD, tkL, tkR, stepOfL, stC, Int.reduceEq, Bool.false_eq_true, if_true, if_false, List.nil_append, List.cons_append, *]
      · obtain ⟨hf, h0, h1, h2, h3, h4, h5, h6⟩ := h
        have u : usesL op a b = [] := by unfold usesL; rw [h0, if_neg (by simp [h3]), if_neg (by simp [h2, h4, h6])]
        have m : makesP op = false := by unfold makesP; simp [h0, h1, h2, h5, h6]
        have he : emitL op d a b n = [] := by unfold emitL homedP; rw [hf]; rfl
        simp only [am, amV, amM, amH, amL, amC, amX, amS, and_self, if_true, if_false, and_true, true_and, Nat.reduceAdd, Nat.reduceMul, Nat.reduceSub, Nat.reduceLeDiff, Nat.reduceLT, Nat.reduceEqDiff, decide_eq_true_eq, Bool.false_eq_true, decide_true, decide_false, cond_true, cond_false, Bool.not_true, Bool.not_false, List.replicate_succ, List.replicate_zero, l2Makes_ok, l15Home_ok, in_, List.map_nil, spec_WordOk_ok, Int.reduceGT, Int.reduceLT, *]
        simp only [sEmit_zs]
end
end Go.Am.Try

/- The steps of a place are right; the last makes what the place makes. -/
import Derived.Test.YteboddabjocpoaaEI7
import Derived.Test.YteboddabjocpoaaEI5
set_option linter.all false
namespace Go.Am.Try
open Go Go.Am
section
variable {k : Nat} {H : Heap} {K : V → Heap → Prop}

theorem neq_self {c : List V} (h : IsStep c) : binAV .neq 5 (.agg c) (.agg c) = some (.b false) := by
  obtain ⟨o, r, a, b, n, rfl⟩ := h
  simp [binAV, stC, eqIs, qieq]

theorem same_l0 {C : Call1} {N : Nat} {w : Bool} {es : List (List V)} (hes : ∀ c ∈ es, IsStep c) (hl : es.length ≤ 8192) {k1 : List V → Heap → Prop} {K : V → Heap → Prop} (hk : k1 [] H) : ∀ (d i n : Nat), es.length - i = d → d < n → i ≤ es.length →
    dLoop n (laws_sameSteps_l0 C N (.tl w 5 es) (.tl w 5 es) k1 K) [.i .i64 i] H := by
  intro d
  induction d with
  | zero =>
    intro i n hd hn' hi
    obtain ⟨n, rfl⟩ : ∃ m, n = m + 1 := ⟨n - 1, by omega⟩
    simp only [dLoop]
    rw [laws_sameSteps_l0]
    have h1 : ¬ (i : Int) < es.length := by omega
    simp only [am, amV, amM, amH, amL, amC, and_self, if_true, if_false, Nat.reduceAdd, Nat.reduceMul, Nat.reduceLeDiff, Nat.reduceLT, Nat.reduceEqDiff, decide_eq_true_eq, Bool.false_eq_true, decide_true, decide_false, cond_true, cond_false, Bool.not_true, Bool.not_false, h1]
    exact hk
  | succ d ih =>
    intro i n hd hn' hi
    obtain ⟨n, rfl⟩ : ∃ m, n = m + 1 := ⟨n - 1, by omega⟩
    simp only [dLoop]
    rw [laws_sameSteps_l0]
    have h1 : (i : Int) < es.length := by omega
    have h2 : i < es.length := by omega
    simp only [am, amV, amM, amH, amL, amC, and_self, if_true, if_false, Nat.reduceAdd, Nat.reduceMul, Nat.reduceLeDiff, Nat.reduceLT, Nat.reduceEqDiff, decide_eq_true_eq, Bool.false_eq_true, decide_true, decide_false, cond_true, cond_false, Bool.not_true, Bool.not_false, h1]
    rw [idx_tl (by omega) (by omega)]
    have hc := hes _ (List.getElem_mem (n := ((i : Int)).toNat) (h := by omega))
    have hs := neq_self hc
    obtain ⟨o, r, a, b, n', he⟩ := hc
    rw [he] at hs ⊢
    simp only [am, amV, amM, amH, amL, amC, amX, amS, and_self, if_true, if_false, and_true, true_and, Nat.reduceAdd, Nat.reduceMul, Nat.reduceSub, Nat.reduceLeDiff, Nat.reduceLT, Nat.reduceEqDiff, decide_eq_true_eq, Bool.false_eq_true, decide_true, decide_false, cond_true, cond_false, Bool.not_true, Bool.not_false, List.replicate_succ, List.replicate_zero, stC] at hs ⊢
    simp only [am, amV, amM, amH, amL, amC, amX, amS, and_self, if_true, if_false, and_true, true_and, Nat.reduceAdd, Nat.reduceMul, Nat.reduceSub, Nat.reduceLeDiff, Nat.reduceLT, Nat.reduceEqDiff, decide_eq_true_eq, Bool.false_eq_true, decide_true, decide_false, cond_true, cond_false, Bool.not_true, Bool.not_false, List.replicate_succ, List.replicate_zero, hs]
    rw [w64_succ (by omega)]
    exact ih (i + 1) n (by omega) (by omega) (by omega)

theorem sameSteps_ok {es : List (List V)} (hes : ∀ c ∈ es, IsStep c) (hl : es.length ≤ 8000) (hb : 8192 ≤ k) (hk : K (.b true) H) : CC (k + 1) 19 [.tl false 5 es, .tl false 5 es] H K := by
  rw [c_laws_sameSteps (x0s := .tl true 5 es) (x1s := .tl true 5 es) _ _ _ (by simp only [am, amV, amM, amH, amL, amC, and_self, if_true, if_false, Nat.reduceAdd, Nat.reduceMul, Nat.reduceLeDiff, Nat.reduceLT, Nat.reduceEqDiff, decide_eq_true_eq, Bool.false_eq_true, decide_true, decide_false, cond_true, cond_false, Bool.not_true, Bool.not_false, amS, seal_steps hes])]
  unfold laws_sameSteps
  simp only [am, amV, amM, amH, amL, amC, amX, amS, and_self, if_true, if_false, and_true, true_and, Nat.reduceAdd, Nat.reduceMul, Nat.reduceSub, Nat.reduceLeDiff, Nat.reduceLT, Nat.reduceEqDiff, decide_eq_true_eq, Bool.false_eq_true, decide_true, decide_false, cond_true, cond_false, Bool.not_true, Bool.not_false, List.replicate_succ, List.replicate_zero]
  refine same_l0 hes (by omega) ?_ es.length 0 k rfl (by omega) (Nat.zero_le _)
  rw [back_seal rfl (seal_b ..)]
  exact hk

theorem InsDef_ok {op d a b n : Int} : CC (k + 11) 22 [insV op d a b n] H K = K (.i .i64 (if hasP op 68 = true then d else -1)) H := by
  rw [c_impl_InsDef (x0s := insV op d a b n) _ _ _ (by simp only [am, amV, amM, amH, amL, amC, and_self, if_true, if_false, Nat.reduceAdd, Nat.reduceMul, Nat.reduceLeDiff, Nat.reduceLT, Nat.reduceEqDiff, decide_eq_true_eq, Bool.false_eq_true, decide_true, decide_false, cond_true, cond_false, Bool.not_true, Bool.not_false, amS])]
  unfold impl_InsDef
  simp only [am, amV, amM, amH, amL, amC, amX, amS, and_self, if_true, if_false, and_true, true_and, Nat.reduceAdd, Nat.reduceMul, Nat.reduceSub, Nat.reduceLeDiff, Nat.reduceLT, Nat.reduceEqDiff, decide_eq_true_eq, Bool.false_eq_true, decide_true, decide_false, cond_true, cond_false, Bool.not_true, Bool.not_false, List.replicate_succ, List.replicate_zero, has_ok]
  cases hasP op 68
  · simp only [am, amV, amM, amH, amL, amC, amX, amS, and_self, if_true, if_false, and_true, true_and, Nat.reduceAdd, Nat.reduceMul, Nat.reduceSub, Nat.reduceLeDiff, Nat.reduceLT, Nat.reduceEqDiff, decide_eq_true_eq, Bool.false_eq_true, decide_true, decide_false, cond_true, cond_false, Bool.not_true, Bool.not_false, List.replicate_succ, List.replicate_zero]; rw [back_seal rfl (seal_i ..)]
  · simp only [am, amV, amM, amH, amL, amC, amX, amS, and_self, if_true, if_false, and_true, true_and, Nat.reduceAdd, Nat.reduceMul, Nat.reduceSub, Nat.reduceLeDiff, Nat.reduceLT, Nat.reduceEqDiff, decide_eq_true_eq, Bool.false_eq_true, decide_true, decide_false, cond_true, cond_false, Bool.not_true, Bool.not_false, List.replicate_succ, List.replicate_zero]; rw [back_seal rfl (seal_i ..)]

theorem right_get {h b : Int} (h1 : 4 ≤ h ∧ h ≤ 39) (h2 : 0 ≤ b ∧ b ≤ 7) : StepRight (stC 3 b 0 0 (h - 4)) :=
  ⟨3, b, 0, 0, h - 4, rfl, by omega, by omega, by rw [if_pos (by decide)]; exact h2, by rw [if_neg (by decide)], by rw [if_neg (by decide)], .inr (.inl ⟨by decide, by omega, by omega⟩)⟩
theorem right_put {h r : Int} (h1 : 4 ≤ h ∧ h ≤ 39) (h2 : 0 ≤ r ∧ r ≤ 7) : StepRight (stC 4 0 r 0 (h - 4)) :=
  ⟨4, 0, r, 0, h - 4, rfl, by omega, by omega, by rw [if_neg (by decide)], by rw [if_pos (by decide)]; exact h2, by rw [if_neg (by decide)], .inr (.inl ⟨by decide, by omega, by omega⟩)⟩
theorem home_of {h : Int} (hh : homeP h = true) : 0 ≤ h ∧ h ≤ 39 := of_decide_eq_true hh
theorem tkR_in {h b : Int} (hh : 0 ≤ h ∧ h ≤ 39) (hb : 0 ≤ b ∧ b ≤ 7) : 0 ≤ tkR h b ∧ tkR h b ≤ 7 := by unfold tkR; split <;> omega
theorem tkL_right {h b : Int} (hh : 0 ≤ h ∧ h ≤ 39) (hb : 0 ≤ b ∧ b ≤ 7) : ∀ c ∈ tkL h b, StepRight c := by
  unfold tkL
  split
  · simp
  · intro c hc; simp only [List.mem_cons, List.not_mem_nil, or_false] at hc; rw [hc]; exact right_get (by omega) hb
theorem tkL_len (h b : Int) : (tkL h b).length ≤ 1 := by unfold tkL; split <;> simp

/-- What the steps of a place are. -/
structure EmitRight (op d : Int) (es : List (List V)) : Prop where
  len : es.length ≤ 4
  right : ∀ c ∈ es, StepRight c
  last : es ≠ [] → hasP op 68 = true → ∃ i o r a b n, es = i ++ [stC o r a b n] ∧ (d < 4 → r = d ∧ o ≠ 4) ∧ (¬ d < 4 → o = 4 ∧ n = d - 4)
theorem EmitRight.nil (op d : Int) : EmitRight op d [] := ⟨by simp, by simp, fun h => absurd rfl h⟩

theorem copy_right {d a : Int} (hd : 0 ≤ d ∧ d ≤ 39) (ha : 0 ≤ a ∧ a ≤ 39) : EmitRight 25 d (copyL d a) := by
  unfold copyL
  split
  · refine ⟨by simp, ?_, fun _ _ => ⟨[], 2, d, a, 0, 0, rfl, fun _ => ⟨rfl, by decide⟩, by omega⟩⟩
    intro c hc; simp only [List.mem_cons, List.not_mem_nil, or_false] at hc; rw [hc]
    exact ⟨2, d, a, 0, 0, rfl, by omega, by omega, by rw [if_pos (by decide)]; omega, by rw [if_pos (by decide)]; omega, by rw [if_neg (by decide)], .inr (.inr ⟨by decide, rfl⟩)⟩
  split
  · refine ⟨by simp, ?_, fun _ _ => ⟨[], 3, d, 0, 0, a - 4, rfl, fun _ => ⟨rfl, by decide⟩, by omega⟩⟩
    intro c hc; simp only [List.mem_cons, List.not_mem_nil, or_false] at hc; rw [hc]
    exact right_get (by omega) (by omega)
  · refine ⟨by have := tkL_len a 4; simp; omega, ?_, fun _ _ => ⟨_, 4, 0, tkR a 4, 0, d - 4, rfl, by omega, fun _ => ⟨rfl, rfl⟩⟩⟩
    intro c hc
    rcases List.mem_append.1 hc with h | h
    · exact tkL_right ha (by omega) c h
    · simp only [List.mem_cons, List.not_mem_nil, or_false] at h; rw [h]; exact right_put (by omega) (tkR_in ha (by omega))

theorem stepOf_right {op n r a b : Int} (h25 : op ≠ 25) (hf : formK op = true) (hr : if hasP op 68 = true then 0 ≤ r ∧ r ≤ 7 else r = 0) (ha : 0 ≤ a ∧ a ≤ 7) (hb : 0 ≤ b ∧ b ≤ 7) : StepRight (stepOfL op n r a b) := by
  rcases kinds op with h | h | h | h | h | h | h | h
  · obtain ⟨w1, w2, w3, w4, n1, n2, n3, n4, n5, n6⟩ := word_has h
    have hw := of_decide_eq_true (show decide (1 ≤ op ∧ op ≤ 10) = true from h)
    rw [if_pos w2] at hr
    have hs : sFormL (op + 11) = [82, 65, 66] := by
      unfold sFormL
      rw [if_neg (by omega), if_neg (by omega), if_neg (by omega), if_neg (by omega), if_neg (by omega), if_neg (by omega), if_neg (by omega), if_neg (by omega), if_neg (by omega)]
    refine ⟨op + 11, r, a, b, 0, ?_, by omega, by omega, ?_, ?_, ?_, .inr (.inr ⟨?_, rfl⟩)⟩
    · unfold stepOfL; rw [if_neg n1, if_neg n2, if_neg n3, if_neg n4, if_neg n5]
    · rw [hs, if_pos (by decide)]; exact hr
    · rw [hs, if_pos (by decide)]; exact ha
    · rw [hs, if_pos (by decide)]; exact hb
    · rw [hs]; decide
  · subst h; rw [if_pos (show hasP 20 68 = true from rfl)] at hr
    exact ⟨1, r, 0, 0, n, rfl, by omega, by omega, by rw [if_pos (by decide)]; exact hr, by rw [if_neg (by decide)], by rw [if_neg (by decide)], .inl (by decide)⟩
  · subst h; rw [if_pos (show hasP 21 68 = true from rfl)] at hr
    exact ⟨5, r, a, 0, 0, rfl, by omega, by omega, by rw [if_pos (by decide)]; exact hr, by rw [if_pos (by decide)]; exact ha, by rw [if_neg (by decide)], .inr (.inr ⟨by decide, rfl⟩)⟩
  · subst h
    exact ⟨6, 0, a, b, 0, rfl, by omega, by omega, by rw [if_neg (by decide)], by rw [if_pos (by decide)]; exact ha, by rw [if_pos (by decide)]; exact hb, .inr (.inr ⟨by decide, rfl⟩)⟩
  · subst h
    exact ⟨7, 0, a, 0, 0, rfl, by omega, by omega, by rw [if_neg (by decide)], by rw [if_pos (by decide)]; exact ha, by rw [if_neg (by decide)], .inr (.inr ⟨by decide, rfl⟩)⟩
  · subst h; rw [if_pos (show hasP 24 68 = true from rfl)] at hr
    exact ⟨8, r, 0, 0, 0, rfl, by omega, by omega, by rw [if_pos (by decide)]; exact hr, by rw [if_neg (by decide)], by rw [if_neg (by decide)], .inr (.inr ⟨by decide, rfl⟩)⟩
  · exact absurd h h25
  · rw [h.1] at hf; cases hf
theorem stepOfL_r {op n r a b : Int} (h25 : op ≠ 25) (hf : formK op = true) (hD : hasP op 68 = true) : ∃ o a' b' n', stepOfL op n r a b = stC o r a' b' n' ∧ o ≠ 4 := by
  rcases kinds op with h | h | h | h | h | h | h | h
  · obtain ⟨w1, w2, w3, w4, n1, n2, n3, n4, n5, n6⟩ := word_has h
    have hw := of_decide_eq_true (show decide (1 ≤ op ∧ op ≤ 10) = true from h)
    exact ⟨op + 11, a, b, 0, by unfold stepOfL; rw [if_neg n1, if_neg n2, if_neg n3, if_neg n4, if_neg n5], by omega⟩
  · subst h; exact ⟨1, 0, 0, n, rfl, by decide⟩
  · subst h; exact ⟨5, a, 0, 0, rfl, by decide⟩
  · subst h; cases hD
  · subst h; cases hD
  · subst h; exact ⟨8, 0, 0, 0, rfl, by decide⟩
  · exact absurd h h25
  · rw [h.1] at hf; cases hf

theorem emit_right {op d a b n : Int} : EmitRight op d (emitL op d a b n) := by
  unfold emitL
  split
  · rename_i hh
    have hf : formK op = true := by cases h : formK op <;> simp [homedP, h] at hh ⊢
    have hD : hasP op 68 = true → 0 ≤ d ∧ d ≤ 39 := fun h => home_of (by cases h' : homeP d <;> simp [homedP, h, h'] at hh ⊢)
    have hA : hasP op 65 = true → 0 ≤ a ∧ a ≤ 39 := fun h => home_of (by cases h' : homeP a <;> simp [homedP, h, h'] at hh ⊢)
    have hB : hasP op 66 = true → 0 ≤ b ∧ b ≤ 39 := fun h => home_of (by cases h' : homeP b <;> simp [homedP, h, h'] at hh ⊢)
    split
    · rename_i h25; subst h25; exact copy_right (hD rfl) (hA rfl)
    · rename_i h25
      have hrA : 0 ≤ (if hasP op 65 = true then tkR a 4 else 0) ∧ (if hasP op 65 = true then tkR a 4 else 0) ≤ 7 := by
        split
        · rename_i h; exact tkR_in (hA h) (by omega)
        · omega
      have hrB : 0 ≤ (if hasP op 66 = true then tkR b 5 else 0) ∧ (if hasP op 66 = true then tkR b 5 else 0) ≤ 7 := by
        split
        · rename_i h; exact tkR_in (hB h) (by omega)
        · omega
      have hreg : if hasP op 68 = true then 0 ≤ regD op d ∧ regD op d ≤ 7 else regD op d = 0 := by
        unfold regD
        split
        · rename_i h; have := hD h; split <;> omega
        · rfl
      refine ⟨?_, ?_, fun _ hd => ?_⟩
      · have h1 := tkL_len a 4
        have h2 := tkL_len b 5
        simp only [List.length_append]
        split <;> split <;> split <;> simp <;> omega
      · intro c hc
        rcases List.mem_append.1 hc with hc | hc
        · rcases List.mem_append.1 hc with hc | hc
          · rcases List.mem_append.1 hc with hc | hc
            · split at hc
              · rename_i h; exact tkL_right (hA h) (by omega) c hc
              · simp at hc
            · split at hc
              · rename_i h; exact tkL_right (hB h) (by omega) c hc
              · simp at hc
          · simp only [List.mem_cons, List.not_mem_nil, or_false] at hc; rw [hc]
            exact stepOf_right h25 hf hreg hrA hrB
        · split at hc
          · rename_i h6
            simp only [List.mem_cons, List.not_mem_nil, or_false] at hc; rw [hc]
            have hd : hasP op 68 = true := by
              cases h : hasP op 68
              · simp [regD, h] at h6
              · rfl
            have hd4 : d ≥ 4 := by
              simp only [regD, hd, if_true] at h6
              split at h6 <;> omega
            exact right_put ⟨hd4, (hD hd).2⟩ (by omega)
          · simp at hc
      · obtain ⟨o, a', b', n', he, ho⟩ := stepOfL_r (n := n) (r := regD op d) (a := if hasP op 65 = true then tkR a 4 else 0) (b := if hasP op 66 = true then tkR b 5 else 0) h25 hf hd
        have h0 := hD hd
        by_cases h4 : d < 4
        · have hr : regD op d = d := by unfold regD; rw [if_pos hd, if_neg (by omega)]
          have hn : ¬ regD op d = 6 := by omega
          rw [if_neg hn, List.append_nil, he]
          exact ⟨_, o, _, a', b', n', rfl, fun _ => ⟨hr, ho⟩, fun h => absurd h4 h⟩
        · have hr : regD op d = 6 := by unfold regD; rw [if_pos hd, if_pos (by omega)]
          rw [if_pos hr]
          exact ⟨_, 4, 0, 6, 0, d - 4, rfl, fun h => absurd h h4, fun _ => ⟨rfl, rfl⟩⟩
  · exact .nil _ _
end
end Go.Am.Try

/- Numbers as bytes: how they are drawn, written and read. -/
import Derived.Test.YteboddabjocpoaaNB1
set_option linter.all false
namespace Go.Am.Try
open Go Go.Am

section
variable {k : Nat} {H : Heap} {K : V → Heap → Prop}

theorem new_l0 {C : Call1} {N : Nat} {w : Bool} {code : List Int} (hc : code.length ≤ 1152921504606846976) {k1 : List V → Heap → Prop} (hk : ∀ h', k1 [.i .i64 h'] H) : ∀ (d i n : Nat) (h : Int), 4000 - i = d → d < n →
    dLoop n (spec_l1New_l0 C N (.tl w 1 (by_ code)) k1) [.i .i64 h, .i .i64 i] H := by
  intro d
  induction d with
  | zero =>
    intro i n h hd hn
    obtain ⟨n, rfl⟩ : ∃ m, n = m + 1 := ⟨n - 1, by omega⟩
    simp only [dLoop]
    rw [spec_l1New_l0]
    have h2 : ¬ (i : Int) < 4000 := by omega
    by_cases h1 : (i : Int) < code.length
    all_goals simp only [am, amV, amM, amH, amL, amC, and_self, if_true, if_false, Nat.reduceAdd, Nat.reduceMul, Nat.reduceLeDiff, Nat.reduceLT, Nat.reduceEqDiff, decide_eq_true_eq, Bool.false_eq_true, decide_true, decide_false, cond_true, cond_false, Bool.not_true, Bool.not_false, by_len, h1, h2]; exact hk _
  | succ d ih =>
    intro i n h hd hn
    obtain ⟨n, rfl⟩ : ∃ m, n = m + 1 := ⟨n - 1, by omega⟩
    simp only [dLoop]
    rw [spec_l1New_l0]
    have h2 : (i : Int) < 4000 := by omega
    by_cases h1 : (i : Int) < code.length
    · simp only [am, amV, amM, amH, amL, amC, and_self, if_true, if_false, Nat.reduceAdd, Nat.reduceMul, Nat.reduceLeDiff, Nat.reduceLT, Nat.reduceEqDiff, decide_eq_true_eq, Bool.false_eq_true, decide_true, decide_false, cond_true, cond_false, Bool.not_true, Bool.not_false, by_len, h1, h2]
      rw [idx_tl (by omega) (by rw [by_len]; omega), by_get]
      simp only [am, amV, amM, amH, amL, amC, and_self, if_true, if_false, Nat.reduceAdd, Nat.reduceMul, Nat.reduceLeDiff, Nat.reduceLT, Nat.reduceEqDiff, decide_eq_true_eq, Bool.false_eq_true, decide_true, decide_false, cond_true, cond_false, Bool.not_true, Bool.not_false]
      rw [w64_succ (by omega)]
      exact ih (i + 1) n _ (by omega) (by omega)
    · simp only [am, amV, amM, amH, amL, amC, and_self, if_true, if_false, Nat.reduceAdd, Nat.reduceMul, Nat.reduceLeDiff, Nat.reduceLT, Nat.reduceEqDiff, decide_eq_true_eq, Bool.false_eq_true, decide_true, decide_false, cond_true, cond_false, Bool.not_true, Bool.not_false, by_len, h1]
      exact hk _

theorem l1New_ok {w : Bool} {code : List Int} (hc : code.length ≤ 1152921504606846976) (hb : 8192 ≤ k) (hk : ∀ h, K (.p H.length 3 1 0 0) (H ++ [cur w code 0 h])) : CC (k + 1) 51 [.tl w 1 (by_ code)] H K := by
  rw [c_spec_l1New]
  unfold spec_l1New
  simp only [am, amV, amM, amH, amL, amC, and_self, if_true, if_false, Nat.reduceAdd, Nat.reduceMul, Nat.reduceLeDiff, Nat.reduceLT, Nat.reduceEqDiff, decide_eq_true_eq, Bool.false_eq_true, decide_true, decide_false, cond_true, cond_false, Bool.not_true, Bool.not_false, by_len]
  refine new_l0 hc (fun h' => ?_) 4000 0 k _ rfl (by omega)
  simp only [am, amV, amM, amH, amL, amC, and_self, if_true, if_false, Nat.reduceAdd, Nat.reduceMul, Nat.reduceLeDiff, Nat.reduceLT, Nat.reduceEqDiff, decide_eq_true_eq, Bool.false_eq_true, decide_true, decide_false, cond_true, cond_false, Bool.not_true, Bool.not_false]
  exact hk h'

theorem at_end (H : Heap) (R : Row) : row? (H ++ [R]) H.length = some R := row_app H [R]
theorem set_end (H : Heap) (R S : Row) : (H ++ [R]).set H.length S = H ++ [S] := by rw [List.set_append_right _ _ (Nat.le_refl _), Nat.sub_self]; rfl

theorem seal_by (w o l : Bool) (H : Heap) (es : List Int) : allM (sealCs w o l H [.at_]) (by_ es) = some (by_ es) := allM_map es fun a _ => rfl
theorem seal_in (w o l : Bool) (H : Heap) (es : List Int) : allM (sealCs w o l H [.at_]) (in_ es) = some (in_ es) := allM_map es fun a _ => rfl

/-- A drawn number. -/
theorem DrawPackNum_ok {w : Bool} {code : List Int} (hc : code.length ≤ 1152921504606846976) (hb : 8192 ≤ k) (hk : ∀ x, I64 x → K (.i .i64 x) H) : CC (k + 5) 11 [.tl w 1 (by_ code)] H K := by
  rw [c_spec_DrawPackNum (x0s := .tl true 1 (by_ code)) _ _ _ (by simp only [am, amV, amM, amH, amL, amC, and_self, if_true, if_false, Nat.reduceAdd, Nat.reduceMul, Nat.reduceLeDiff, Nat.reduceLT, Nat.reduceEqDiff, decide_eq_true_eq, Bool.false_eq_true, decide_true, decide_false, cond_true, cond_false, Bool.not_true, Bool.not_false, amS, seal_by])]
  unfold spec_DrawPackNum
  have hk' : ∀ x H', I64 x → backD g_spec_DrawPackNum H K (.i .i64 x) H' := fun x H' hx => by rw [back_seal rfl (seal_i ..)]; exact hk x hx
  refine l1New_ok hc (by omega) fun h => ?_
  simp only [am, amV, amM, amH, amL, amC, and_self, if_true, if_false, Nat.reduceAdd, Nat.reduceMul, Nat.reduceLeDiff, Nat.reduceLT, Nat.reduceEqDiff, decide_eq_true_eq, Bool.false_eq_true, decide_true, decide_false, cond_true, cond_false, Bool.not_true, Bool.not_false]
  refine l1Once_ok hc (row_0 _ _) (Int.le_refl _) fun q i' h' hi' => ?_
  simp only [am, amV, amM, amH, amL, amC, and_self, if_true, if_false, Nat.reduceAdd, Nat.reduceMul, Nat.reduceLeDiff, Nat.reduceLT, Nat.reduceEqDiff, decide_eq_true_eq, Bool.false_eq_true, decide_true, decide_false, cond_true, cond_false, Bool.not_true, Bool.not_false]
  split
  · refine l1PickInt_ok (l := [4611686018427387903, 4611686018427387904, -4611686018427387904, -4611686018427387905, 63, 64, -64, -65]) hc (row_0 _ _) hi' (by decide) fun x i2 h2 hx hi2 => ?_
    refine hk' _ _ ?_
    unfold I64
    simp only [List.mem_cons, List.not_mem_nil, or_false] at hx
    omega
  · exact l1DrawNum_ok hc (row_0 _ _) hi' fun x i2 h2 hx hi2 => hk' _ _ hx
end
end Go.Am.Try

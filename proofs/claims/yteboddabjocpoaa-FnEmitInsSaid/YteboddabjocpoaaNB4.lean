/- Numbers read from bytes. -/
import Derived.Test.YteboddabjocpoaaNB3
set_option linter.all false
namespace Go.Am.Try
open Go Go.Am

def tupR (r : Int × Int × Bool) : V := .tup [.i .i64 r.1, .i .i64 r.2.1, .b r.2.2]

section
variable {k : Nat} {H : Heap} {K : V → Heap → Prop}

theorem shl7' (v : Int) (i : Nat) (hi : i ≤ 8) (h0 : 0 ≤ v) (h1 : v ≤ 127) : IntKind.i64.wrap (v * 2 ^ (7 * (i : Int)).toNat) = v * 128 ^ i := by
  have e : (7 * (i : Int)).toNat = 7 * i := by omega
  rw [e, pow7]
  have hp : (128 : Int) ^ i ≤ 128 ^ 8 := by
    have := Nat.pow_le_pow_right (n := 128) (by decide) hi
    exact_mod_cast this
  have hp0 : (0 : Int) < 128 ^ i := Int.pow_pos (by decide)
  apply wraps_i64
  · exact Int.mul_nonneg h0 (by omega)
  · have := Int.mul_le_mul h1 hp (by omega) (by decide)
    omega

theorem drop_get {b : List Int} {n : Nat} (h : n < b.length) : b.drop n = b[n] :: b.drop (n + 1) := by rw [List.drop_eq_getElem_cons h]

/-- One byte joined to what was read. -/
theorem joined {b : List Int} (hb : Bytes b) {n : Int} {i j : Nat} (hj : j < b.length) (hi : i ≤ 8) (h0 : 0 ≤ n) (hn : n < 128 ^ i) :
    0 ≤ b[j] ∧ b[j] ≤ 255 ∧ IntKind.i64.wrap b[j] = b[j] ∧ Go.bits .and .i64 b[j] 127 = b[j] % 128 ∧ Int.tmod b[j] 128 = b[j] % 128 ∧ IntKind.i64.wrap (b[j] % 128 * 2 ^ (7 * (i : Int)).toNat) = b[j] % 128 * 128 ^ i ∧ Go.bits .or .i64 n (b[j] % 128 * 128 ^ i) = n + b[j] % 128 * 128 ^ i := by
  have h := hb _ (List.getElem_mem hj)
  exact ⟨h.1, h.2, w64 (by omega) (by omega), and_mask _ h.1 (by omega), Int.tmod_eq_emod_of_nonneg h.1, shl7' _ i hi (by omega) (by omega), join7 n _ i hi h0 hn (by omega) (by omega)⟩

theorem sum_lt {n v : Int} {i : Nat} (hi : i ≤ 8) (h0 : 0 ≤ n) (hn : n < 128 ^ i) (hv0 : 0 ≤ v) (hv : v < 128) : 0 ≤ n + v * 128 ^ i ∧ n + v * 128 ^ i < 128 ^ (i + 1) ∧ n + v * 128 ^ i < 2 ^ 63 := by
  have hp0 : (0 : Int) < 128 ^ i := Int.pow_pos (by decide)
  have hp : (128 : Int) ^ i ≤ 128 ^ 8 := by
    have := Nat.pow_le_pow_right (n := 128) (by decide) hi
    exact_mod_cast this
  have hm : 0 ≤ v * 128 ^ i := Int.mul_nonneg hv0 (by omega)
  have hm2 : v * 128 ^ i ≤ 127 * 128 ^ i := Int.mul_le_mul_of_nonneg_right (by omega) (by omega)
  rw [Int.pow_succ]
  omega

theorem told_step (at_ n : Int) (i : Nat) (v : Int) (p : List Int × Int) : told at_ n i (some (v :: p.1, p.2)) = told at_ (n + (v - 128) * 128 ^ i) (i + 1) (some p) := by
  simp only [told, val, Prod.mk.injEq, and_true, List.length_cons]
  refine ⟨?_, by omega⟩
  congr 1
  rw [Int.pow_succ, Int.sub_mul, Int.mul_add, Int.mul_sub, Int.mul_comm (128 ^ i) v, Int.mul_comm (128 ^ i) 128, ← Int.mul_assoc (128 ^ i), Int.mul_comm (128 ^ i) 128]
  omega

theorem impl_unpack_l0 {C : Call1} {N : Nat} {w : Bool} {b : List Int} (hb : Bytes b) (hl : b.length ≤ 1152921504606846976) {at_ : Int} (ha : 0 ≤ at_) (hal : at_ ≤ b.length) {k2 : List V → Heap → Prop} (hk2 : K (tupR (0, 0, false)) H → k2 [] H) :
    ∀ (d i : Nat) (n : Int) (m : Nat), i + d = 9 → d < m → 0 ≤ n → n < 128 ^ i → K (tupR (told at_ n i (dc (decide (i = 0)) d (b.drop (at_.toNat + i))))) H →
    dLoop m (impl_UnpackNum_l0 C N (.tl w 1 (by_ b)) (.i .i64 at_) k2 K) [.i .i64 n, .i .i64 i] H := by
  intro d
  induction d with
  | zero =>
    intro i n m hd hm h0 hn hk
    obtain ⟨m, rfl⟩ : ∃ j, m = j + 1 := ⟨m - 1, by omega⟩
    simp only [dLoop]
    rw [impl_UnpackNum_l0]
    have h1 : ¬ (i : Int) < 9 := by omega
    simp only [am, amV, amM, amH, amL, amC, and_self, if_true, if_false, Nat.reduceAdd, Nat.reduceMul, Nat.reduceLeDiff, Nat.reduceLT, Nat.reduceEqDiff, decide_eq_true_eq, Bool.false_eq_true, decide_true, decide_false, cond_true, cond_false, Bool.not_true, Bool.not_false, h1]
    exact hk2 hk
  | succ d ih =>
    intro i n m hd hm h0 hn hk
    obtain ⟨m, rfl⟩ : ∃ j, m = j + 1 := ⟨m - 1, by omega⟩
    simp only [dLoop]
    rw [impl_UnpackNum_l0]
    have h1 : (i : Int) < 9 := by omega
    have hw : IntKind.i64.wrap (at_ + (i : Int)) = at_ + i := w64 (by omega) (by omega)
    by_cases h2 : at_ + (i : Int) < b.length
    · have hj : at_.toNat + i < b.length := by omega
      have hjj : (at_ + (i : Int)).toNat = at_.toNat + i := by omega
      have hw7 : IntKind.i64.wrap (7 * (i : Int)) = 7 * i := w64 (by omega) (by omega)
      obtain ⟨v0, v1, v2, v3, _, v4, v5⟩ := joined hb hj (show i ≤ 8 by omega) h0 hn
      obtain ⟨s0, s1, s2⟩ := sum_lt (n := n) (v := b[at_.toNat + i] % 128) (i := i) (by omega) h0 hn (by omega) (by omega)
      rw [drop_get hj] at hk
      simp only [am, amV, amM, amH, amL, amC, and_self, if_true, if_false, Nat.reduceAdd, Nat.reduceMul, Nat.reduceLeDiff, Nat.reduceLT, Nat.reduceEqDiff, decide_eq_true_eq, Bool.false_eq_true, decide_true, decide_false, cond_true, cond_false, Bool.not_true, Bool.not_false, h1, by_len, hw, h2]
      rw [idx_tl (by omega) (by rw [by_len]; omega), by_get]
      simp only [am, amV, amM, amH, amL, amC, and_self, if_true, if_false, Nat.reduceAdd, Nat.reduceMul, Nat.reduceLeDiff, Nat.reduceLT, Nat.reduceEqDiff, decide_eq_true_eq, Bool.false_eq_true, decide_true, decide_false, cond_true, cond_false, Bool.not_true, Bool.not_false, hjj, v2, v3, hw7, bin_shl .i64 .i64 _ _ (show 0 ≤ 7 * (i : Int) ∧ 7 * (i : Int) ≤ IntKind.i64.bits by have : (IntKind.i64.bits : Int) = 64 := rfl; omega), v4, v5]
      by_cases h3 : b[at_.toNat + i] > 127
      · simp only [am, amV, amM, amH, amL, amC, and_self, if_true, if_false, Nat.reduceAdd, Nat.reduceMul, Nat.reduceLeDiff, Nat.reduceLT, Nat.reduceEqDiff, decide_eq_true_eq, Bool.false_eq_true, decide_true, decide_false, cond_true, cond_false, Bool.not_true, Bool.not_false, h3]
        rw [w64_succ (by omega)]
        refine ih (i + 1) _ m (by omega) (by omega) s0 s1 ?_
        simp only [dc] at hk
        rw [if_pos h3] at hk
        have hz : decide (i + 1 = 0) = false := by simp
        rw [hz, ← Nat.add_assoc]
        have hv : b[at_.toNat + i] % 128 = b[at_.toNat + i] - 128 := by omega
        cases hdc : dc false d (b.drop (at_.toNat + i + 1)) with
        | none => rw [hdc] at hk; exact hk
        | some p =>
          rw [hdc, Option.map_some, told_step] at hk
          rw [hv]
          exact hk
      · simp only [am, amV, amM, amH, amL, amC, and_self, if_true, if_false, Nat.reduceAdd, Nat.reduceMul, Nat.reduceLeDiff, Nat.reduceLT, Nat.reduceEqDiff, decide_eq_true_eq, Bool.false_eq_true, decide_true, decide_false, cond_true, cond_false, Bool.not_true, Bool.not_false, h3]
        simp only [dc] at hk
        rw [if_neg h3] at hk
        have hv : b[at_.toNat + i] % 128 = b[at_.toNat + i] := by omega
        rw [hv] at s0 s1 s2
        have hval : n + 128 ^ i * val [] b[at_.toNat + i] = n + b[at_.toNat + i] * 128 ^ i := by simp only [val]; rw [Int.mul_comm]
        have hfin : (b[at_.toNat + i] = 0 ∧ decide (i = 0) = false → False) → ∀ q : V, q = tupR (unzig (n + b[at_.toNat + i] * 128 ^ i), at_ + i + 1, true) → K q H := by
          rintro hne q rfl
          rw [if_neg hne] at hk
          simp only [told, hval, List.length_nil] at hk
          simpa using hk
        have w2 : IntKind.i64.wrap (at_ + (i : Int) + 1) = at_ + i + 1 := w64 (by omega) (by omega)
        have tail : (b[at_.toNat + i] = 0 ∧ decide (i = 0) = false → False) → ∀ x : Int, x = n + b[at_.toNat + i] * 128 ^ i → (if Int.tmod x 2 = 1 then K (.tup [.i .i64 (IntKind.i64.wrap (IntKind.i64.wrap (0 - IntKind.i64.wrap (Int.tdiv x 2)) - 1)), .i .i64 (at_ + i + 1), .b true]) H else K (.tup [.i .i64 (IntKind.i64.wrap (Int.tdiv x 2)), .i .i64 (at_ + i + 1), .b true]) H) := by
          rintro hne x rfl
          have f := hfin hne
          unfold tupR unzig at f
          rw [Int.tmod_eq_emod_of_nonneg s0, Int.tdiv_eq_ediv_of_nonneg s0]
          have hd2 := Int.emod_nonneg (n + b[at_.toNat + i] * 128 ^ i) (by decide : (2 : Int) ≠ 0)
          split
          · rename_i h4
            simp only [h4, if_true] at f
            refine f _ ?_
            rw [w64 (n := (n + b[at_.toNat + i] * 128 ^ i) / 2) (by omega) (by omega), w64 (n := 0 - _) (by omega) (by omega), w64 (by omega) (by omega)]
            simp
          · rename_i h4
            simp only [h4, if_false] at f
            refine f _ ?_
            rw [w64 (by omega) (by omega)]
        by_cases h4 : b[at_.toNat + i] = 0
        · by_cases h5 : (i : Int) > 0
          · simp only [am, amV, amM, amH, amL, amC, and_self, if_true, if_false, Nat.reduceAdd, Nat.reduceMul, Nat.reduceLeDiff, Nat.reduceLT, Nat.reduceEqDiff, decide_eq_true_eq, Bool.false_eq_true, decide_true, decide_false, cond_true, cond_false, Bool.not_true, Bool.not_false, h4, h5]
            rw [if_pos ⟨h4, by simp; omega⟩] at hk
            exact hk
          · have t := tail (fun h => by have := h.2; simp at this; omega) _ rfl
            simp only [am, amV, amM, amH, amL, amC, and_self, if_true, if_false, Nat.reduceAdd, Nat.reduceMul, Nat.reduceLeDiff, Nat.reduceLT, Nat.reduceEqDiff, decide_eq_true_eq, Bool.false_eq_true, decide_true, decide_false, cond_true, cond_false, Bool.not_true, Bool.not_false, hv, eq_true h4, h5, bin_rem _ _ _ (by decide : (2 : Int) ≠ 0), bin_quo _ _ _ (by decide : (2 : Int) ≠ 0), hw, w2]
            exact t
        · have t := tail (fun h => h4 h.1) _ rfl
          simp only [am, amV, amM, amH, amL, amC, and_self, if_true, if_false, Nat.reduceAdd, Nat.reduceMul, Nat.reduceLeDiff, Nat.reduceLT, Nat.reduceEqDiff, decide_eq_true_eq, Bool.false_eq_true, decide_true, decide_false, cond_true, cond_false, Bool.not_true, Bool.not_false, hv, h4, bin_rem _ _ _ (by decide : (2 : Int) ≠ 0), bin_quo _ _ _ (by decide : (2 : Int) ≠ 0), hw, w2]
          exact t
    · simp only [am, amV, amM, amH, amL, amC, and_self, if_true, if_false, Nat.reduceAdd, Nat.reduceMul, Nat.reduceLeDiff, Nat.reduceLT, Nat.reduceEqDiff, decide_eq_true_eq, Bool.false_eq_true, decide_true, decide_false, cond_true, cond_false, Bool.not_true, Bool.not_false, h1, by_len, hw, h2]
      refine hk2 ?_
      rw [List.drop_eq_nil_of_le (by omega)] at hk
      exact hk

theorem spec_unpack_l0 {C : Call1} {N : Nat} {w : Bool} {b : List Int} (hb : Bytes b) (hl : b.length ≤ 1152921504606846976) {at_ : Int} (ha : 0 ≤ at_) (hal : at_ ≤ b.length) {k3 : List V → Heap → Prop} (hk3 : K (tupR (0, 0, false)) H → k3 [] H) :
    ∀ (d i : Nat) (n : Int) (m : Nat), i + d = 9 → d < m → 0 ≤ n → n < 128 ^ i → K (tupR (told at_ n i (dc (decide (i = 0)) d (b.drop (at_.toNat + i))))) H →
    dLoop m (spec_UnpackNum_l0 C N (.tl w 1 (by_ b)) (.i .i64 at_) k3 K) [.i .i64 n, .i .i64 i] H := by
  intro d
  induction d with
  | zero =>
    intro i n m hd hm h0 hn hk
    obtain ⟨m, rfl⟩ : ∃ j, m = j + 1 := ⟨m - 1, by omega⟩
    simp only [dLoop]
    rw [spec_UnpackNum_l0]
    have h1 : ¬ (i : Int) < 9 := by omega
    simp only [am, amV, amM, amH, amL, amC, and_self, if_true, if_false, Nat.reduceAdd, Nat.reduceMul, Nat.reduceLeDiff, Nat.reduceLT, Nat.reduceEqDiff, decide_eq_true_eq, Bool.false_eq_true, decide_true, decide_false, cond_true, cond_false, Bool.not_true, Bool.not_false, h1]
    exact hk3 hk
  | succ d ih =>
    intro i n m hd hm h0 hn hk
    obtain ⟨m, rfl⟩ : ∃ j, m = j + 1 := ⟨m - 1, by omega⟩
    simp only [dLoop]
    rw [spec_UnpackNum_l0]
    have h1 : (i : Int) < 9 := by omega
    have hw : IntKind.i64.wrap (at_ + (i : Int)) = at_ + i := w64 (by omega) (by omega)
    by_cases h2 : at_ + (i : Int) < b.length
    · have hj : at_.toNat + i < b.length := by omega
      have hjj : (at_ + (i : Int)).toNat = at_.toNat + i := by omega
      have hw7 : IntKind.i64.wrap (7 * (i : Int)) = 7 * i := w64 (by omega) (by omega)
      obtain ⟨v0, v1, v2, _, v3, v4, v5⟩ := joined hb hj (show i ≤ 8 by omega) h0 hn
      obtain ⟨s0, s1, s2⟩ := sum_lt (n := n) (v := b[at_.toNat + i] % 128) (i := i) (by omega) h0 hn (by omega) (by omega)
      rw [drop_get hj] at hk
      simp only [am, amV, amM, amH, amL, amC, and_self, if_true, if_false, Nat.reduceAdd, Nat.reduceMul, Nat.reduceLeDiff, Nat.reduceLT, Nat.reduceEqDiff, decide_eq_true_eq, Bool.false_eq_true, decide_true, decide_false, cond_true, cond_false, Bool.not_true, Bool.not_false, h1, by_len, hw, h2]
      rw [idx_tl (by omega) (by rw [by_len]; omega), by_get]
      simp only [am, amV, amM, amH, amL, amC, and_self, if_true, if_false, Nat.reduceAdd, Nat.reduceMul, Nat.reduceLeDiff, Nat.reduceLT, Nat.reduceEqDiff, decide_eq_true_eq, Bool.false_eq_true, decide_true, decide_false, cond_true, cond_false, Bool.not_true, Bool.not_false, hjj, v2, bin_rem _ _ _ (by decide : (128 : Int) ≠ 0), v3, hw7, bin_shl .i64 .i64 _ _ (show 0 ≤ 7 * (i : Int) ∧ 7 * (i : Int) ≤ IntKind.i64.bits by have : (IntKind.i64.bits : Int) = 64 := rfl; omega), v4, v5]
      by_cases h3 : b[at_.toNat + i] > 127
      · have h3' : ¬ b[at_.toNat + i] < 128 := by omega
        simp only [am, amV, amM, amH, amL, amC, and_self, if_true, if_false, Nat.reduceAdd, Nat.reduceMul, Nat.reduceLeDiff, Nat.reduceLT, Nat.reduceEqDiff, decide_eq_true_eq, Bool.false_eq_true, decide_true, decide_false, cond_true, cond_false, Bool.not_true, Bool.not_false, h3']
        rw [w64_succ (by omega)]
        refine ih (i + 1) _ m (by omega) (by omega) s0 s1 ?_
        simp only [dc] at hk
        rw [if_pos h3] at hk
        have hz : decide (i + 1 = 0) = false := by simp
        rw [hz, ← Nat.add_assoc]
        have hv : b[at_.toNat + i] % 128 = b[at_.toNat + i] - 128 := by omega
        cases hdc : dc false d (b.drop (at_.toNat + i + 1)) with
        | none => rw [hdc] at hk; exact hk
        | some p =>
          rw [hdc, Option.map_some, told_step] at hk
          rw [hv]
          exact hk
      · have h3' : b[at_.toNat + i] < 128 := by omega
        simp only [am, amV, amM, amH, amL, amC, and_self, if_true, if_false, Nat.reduceAdd, Nat.reduceMul, Nat.reduceLeDiff, Nat.reduceLT, Nat.reduceEqDiff, decide_eq_true_eq, Bool.false_eq_true, decide_true, decide_false, cond_true, cond_false, Bool.not_true, Bool.not_false, h3']
        simp only [dc] at hk
        rw [if_neg h3] at hk
        have hv : b[at_.toNat + i] % 128 = b[at_.toNat + i] := by omega
        rw [hv] at s0 s1 s2
        have hval : n + 128 ^ i * val [] b[at_.toNat + i] = n + b[at_.toNat + i] * 128 ^ i := by simp only [val]; rw [Int.mul_comm]
        have hfin : (b[at_.toNat + i] = 0 ∧ decide (i = 0) = false → False) → ∀ q : V, q = tupR (unzig (n + b[at_.toNat + i] * 128 ^ i), at_ + i + 1, true) → K q H := by
          rintro hne q rfl
          rw [if_neg hne] at hk
          simp only [told, hval, List.length_nil] at hk
          simpa using hk
        have w2 : IntKind.i64.wrap (at_ + (i : Int) + 1) = at_ + i + 1 := w64 (by omega) (by omega)
        have tail : (b[at_.toNat + i] = 0 ∧ decide (i = 0) = false → False) → ∀ x : Int, x = n + b[at_.toNat + i] * 128 ^ i → (if Int.tmod x 2 = 1 then K (.tup [.i .i64 (IntKind.i64.wrap (IntKind.i64.wrap (0 - IntKind.i64.wrap (Int.tdiv x 2)) - 1)), .i .i64 (at_ + i + 1), .b true]) H else K (.tup [.i .i64 (IntKind.i64.wrap (Int.tdiv x 2)), .i .i64 (at_ + i + 1), .b true]) H) := by
          rintro hne x rfl
          have f := hfin hne
          unfold tupR unzig at f
          rw [Int.tmod_eq_emod_of_nonneg s0, Int.tdiv_eq_ediv_of_nonneg s0]
          have hd2 := Int.emod_nonneg (n + b[at_.toNat + i] * 128 ^ i) (by decide : (2 : Int) ≠ 0)
          split
          · rename_i h4
            simp only [h4, if_true] at f
            refine f _ ?_
            rw [w64 (n := (n + b[at_.toNat + i] * 128 ^ i) / 2) (by omega) (by omega), w64 (n := 0 - _) (by omega) (by omega), w64 (by omega) (by omega)]
            simp
          · rename_i h4
            simp only [h4, if_false] at f
            refine f _ ?_
            rw [w64 (by omega) (by omega)]
        by_cases h4 : b[at_.toNat + i] = 0
        · by_cases h5 : (i : Int) > 0
          · simp only [am, amV, amM, amH, amL, amC, and_self, if_true, if_false, Nat.reduceAdd, Nat.reduceMul, Nat.reduceLeDiff, Nat.reduceLT, Nat.reduceEqDiff, decide_eq_true_eq, Bool.false_eq_true, decide_true, decide_false, cond_true, cond_false, Bool.not_true, Bool.not_false, h4, h5]
            rw [if_pos ⟨h4, by simp; omega⟩] at hk
            exact hk
          · have t := tail (fun h => by have := h.2; simp at this; omega) _ rfl
            simp only [am, amV, amM, amH, amL, amC, and_self, if_true, if_false, Nat.reduceAdd, Nat.reduceMul, Nat.reduceLeDiff, Nat.reduceLT, Nat.reduceEqDiff, decide_eq_true_eq, Bool.false_eq_true, decide_true, decide_false, cond_true, cond_false, Bool.not_true, Bool.not_false, hv, eq_true h4, h5, bin_rem _ _ _ (by decide : (2 : Int) ≠ 0), bin_quo _ _ _ (by decide : (2 : Int) ≠ 0), hw, w2]
            exact t
        · have t := tail (fun h => h4 h.1) _ rfl
          simp only [am, amV, amM, amH, amL, amC, and_self, if_true, if_false, Nat.reduceAdd, Nat.reduceMul, Nat.reduceLeDiff, Nat.reduceLT, Nat.reduceEqDiff, decide_eq_true_eq, Bool.false_eq_true, decide_true, decide_false, cond_true, cond_false, Bool.not_true, Bool.not_false, hv, h4, bin_rem _ _ _ (by decide : (2 : Int) ≠ 0), bin_quo _ _ _ (by decide : (2 : Int) ≠ 0), hw, w2]
          exact t
    · simp only [am, amV, amM, amH, amL, amC, and_self, if_true, if_false, Nat.reduceAdd, Nat.reduceMul, Nat.reduceLeDiff, Nat.reduceLT, Nat.reduceEqDiff, decide_eq_true_eq, Bool.false_eq_true, decide_true, decide_false, cond_true, cond_false, Bool.not_true, Bool.not_false, h1, by_len, hw, h2]
      refine hk3 ?_
      rw [List.drop_eq_nil_of_le (by omega)] at hk
      exact hk

theorem seal_tupR (r : Int × Int × Bool) (H : Heap) : sealV false true false H (.tu [.at_, .at_, .at_]) (tupR r) = some (tupR r) := by
  simp only [tupR, am, amV, amM, amH, amL, amC, and_self, if_true, if_false, Nat.reduceAdd, Nat.reduceMul, Nat.reduceLeDiff, Nat.reduceLT, Nat.reduceEqDiff, decide_eq_true_eq, Bool.false_eq_true, decide_true, decide_false, cond_true, cond_false, Bool.not_true, Bool.not_false, amS]

theorem impl_UnpackNum_ok {v : V} {b : List Int} (hv : elemsIn true true H 1 v = some (by_ b)) (hb : Bytes b) (hl : b.length ≤ 1152921504606846976) (hkk : 8192 ≤ k) (at_ : Int) (hk : K (tupR (unpacked b at_)) H) : CC (k + 2) 14 [v, .i .i64 at_] H K := by
  rw [c_impl_UnpackNum (x0s := .tl true 1 (by_ b)) (x1s := .i .i64 at_) _ _ _ (by simp only [am, amV, amM, amH, amL, amC, and_self, if_true, if_false, Nat.reduceAdd, Nat.reduceMul, Nat.reduceLeDiff, Nat.reduceLT, Nat.reduceEqDiff, decide_eq_true_eq, Bool.false_eq_true, decide_true, decide_false, cond_true, cond_false, Bool.not_true, Bool.not_false, amS, hv, seal_by])]
  unfold impl_UnpackNum
  simp only [am, amV, amM, amH, amL, amC, and_self, if_true, if_false, Nat.reduceAdd, Nat.reduceMul, Nat.reduceLeDiff, Nat.reduceLT, Nat.reduceEqDiff, decide_eq_true_eq, Bool.false_eq_true, decide_true, decide_false, cond_true, cond_false, Bool.not_true, Bool.not_false, by_len]
  rw [in_ok]
  have fin : ∀ r H', r = unpacked b at_ → backD g_impl_UnpackNum H K (tupR r) H' := by
    rintro r H' rfl
    rw [back_seal rfl (seal_tupR _ _)]
    exact hk
  by_cases h : 0 ≤ at_ ∧ at_ ≤ b.length
  · simp only [am, amV, amM, amH, amL, amC, and_self, if_true, if_false, Nat.reduceAdd, Nat.reduceMul, Nat.reduceLeDiff, Nat.reduceLT, Nat.reduceEqDiff, decide_eq_true_eq, Bool.false_eq_true, decide_true, decide_false, cond_true, cond_false, Bool.not_true, Bool.not_false, eq_true h]
    refine impl_unpack_l0 hb hl h.1 h.2 (fun h => h) 9 0 0 _ rfl (by omega) (Int.le_refl _) (by decide) (fin _ _ ?_)
    unfold unpacked
    by_cases h2 : (b.length : Int) ≤ at_
    · rw [if_pos (.inr h2), List.drop_eq_nil_of_le (by omega)]
      rfl
    · rw [if_neg (by omega)]
      rfl
  · simp only [am, amV, amM, amH, amL, amC, and_self, if_true, if_false, Nat.reduceAdd, Nat.reduceMul, Nat.reduceLeDiff, Nat.reduceLT, Nat.reduceEqDiff, decide_eq_true_eq, Bool.false_eq_true, decide_true, decide_false, cond_true, cond_false, Bool.not_true, Bool.not_false, h]
    refine fin (0, 0, false) _ ?_
    unfold unpacked
    rw [if_pos (by omega)]

theorem spec_UnpackNum_ok {v : V} {b : List Int} (hv : elemsIn true true H 1 v = some (by_ b)) (hb : Bytes b) (hl : b.length ≤ 1152921504606846976) (hkk : 8192 ≤ k) (at_ : Int) (hk : K (tupR (unpacked b at_)) H) : CC (k + 1) 16 [v, .i .i64 at_] H K := by
  rw [c_spec_UnpackNum (x0s := .tl true 1 (by_ b)) (x1s := .i .i64 at_) _ _ _ (by simp only [am, amV, amM, amH, amL, amC, and_self, if_true, if_false, Nat.reduceAdd, Nat.reduceMul, Nat.reduceLeDiff, Nat.reduceLT, Nat.reduceEqDiff, decide_eq_true_eq, Bool.false_eq_true, decide_true, decide_false, cond_true, cond_false, Bool.not_true, Bool.not_false, amS, hv, seal_by])]
  unfold spec_UnpackNum
  have fin : ∀ r H', r = unpacked b at_ → backD g_spec_UnpackNum H K (tupR r) H' := by
    rintro r H' rfl
    rw [back_seal rfl (seal_tupR _ _)]
    exact hk
  by_cases h1 : at_ < 0
  · simp only [am, amV, amM, amH, amL, amC, and_self, if_true, if_false, Nat.reduceAdd, Nat.reduceMul, Nat.reduceLeDiff, Nat.reduceLT, Nat.reduceEqDiff, decide_eq_true_eq, Bool.false_eq_true, decide_true, decide_false, cond_true, cond_false, Bool.not_true, Bool.not_false, h1]
    refine fin (0, 0, false) _ ?_
    unfold unpacked
    rw [if_pos (by omega)]
  · by_cases h2 : at_ ≥ (b.length : Int)
    · simp only [am, amV, amM, amH, amL, amC, and_self, if_true, if_false, Nat.reduceAdd, Nat.reduceMul, Nat.reduceLeDiff, Nat.reduceLT, Nat.reduceEqDiff, decide_eq_true_eq, Bool.false_eq_true, decide_true, decide_false, cond_true, cond_false, Bool.not_true, Bool.not_false, by_len, h1, h2]
      refine fin (0, 0, false) _ ?_
      unfold unpacked
      rw [if_pos (by omega)]
    · simp only [am, amV, amM, amH, amL, amC, and_self, if_true, if_false, Nat.reduceAdd, Nat.reduceMul, Nat.reduceLeDiff, Nat.reduceLT, Nat.reduceEqDiff, decide_eq_true_eq, Bool.false_eq_true, decide_true, decide_false, cond_true, cond_false, Bool.not_true, Bool.not_false, by_len, h1, h2]
      refine spec_unpack_l0 hb hl (by omega) (by omega) (fun h => h) 9 0 0 _ rfl (by omega) (Int.le_refl _) (by decide) (fin _ _ ?_)
      unfold unpacked
      rw [if_neg (by omega)]
      rfl
end
end Go.Am.Try

/- Numbers written as bytes. -/
import Derived.Test.YteboddabjocpoaaNB2
set_option linter.all false
namespace Go.Am.Try
open Go Go.Am

section
variable {k : Nat} {H : Heap} {K : V → Heap → Prop}

theorem by_app (a b : List Int) : by_ (a ++ b) = by_ a ++ by_ b := List.map_append

theorem shr7 (n : Nat) : Int.fdiv (n : Int) (2 ^ Int.toNat 7) = ((n / 128 : Nat) : Int) := by
  have : (2 : Int) ^ Int.toNat 7 = 128 := by decide
  rw [this, Int.fdiv_eq_ediv_of_nonneg _ (by decide)]
  omega

theorem impl_pack_l0 {C : Call1} {N : Nat} {k5 : List V → Heap → Prop} (H0 : Heap) (m : Nat) : ∀ (n : Nat) (acc : List Int), (enc m).length ≤ n → m < 2 ^ 63 → acc.length + (enc m).length ≤ 1000 →
    (∀ (acc' : List Int) (l : Nat), l ≤ 127 → acc' ++ [(l : Int)] = acc ++ enc m → k5 [.i .u64 l, gV .zs H0.length 1 (by_ acc')] (gH H0 5 1 (by_ acc'))) →
    dLoop n (impl_PackNum_l0 C N k5) [.i .u64 m, gV .zs H0.length 1 (by_ acc)] (gH H0 5 1 (by_ acc)) := by
  induction m using Nat.strongRecOn with
  | _ m ih =>
    intro n acc hn hm hl hk
    have hpos : 0 < (enc m).length := by
      by_cases h : m > 127
      · rw [enc_big h]; simp
      · rw [enc_small h]; simp
    obtain ⟨n, rfl⟩ : ∃ j, n = j + 1 := ⟨n - 1, by omega⟩
    simp only [dLoop]
    rw [impl_PackNum_l0]
    by_cases h : m > 127
    · have h' : (m : Int) > 127 := by omega
      rw [enc_big h] at hl hk hn
      have ha := and_mask64 m (by omega) (by omega)
      have ho := or128 ((m : Int) % 128) (by omega) (by omega)
      have hc : IntKind.u8.wrap ((m : Int) % 128 + 128) = ((m % 128 + 128 : Nat) : Int) := by rw [wu8 (by omega) (by omega)]; omega
      simp only [am, amV, amM, amH, amL, amC, and_self, if_true, if_false, Nat.reduceAdd, Nat.reduceMul, Nat.reduceLeDiff, Nat.reduceLT, Nat.reduceEqDiff, decide_eq_true_eq, Bool.false_eq_true, decide_true, decide_false, cond_true, cond_false, Bool.not_true, Bool.not_false, h', ha, ho, hc, bin_shr _ _ _ _ (by decide : (0:Int) ≤ 7 ∧ (7:Int) ≤ IntKind.u64.bits), shr7]
      rw [app_g (H := H0) rfl (xs := [[.i .u8 ((m % 128 + 128 : Nat) : Int)]]) (.inr rfl) (by decide) (el_tl ..) (by unfold Room; simp [by_len] at hl ⊢; omega)]
      simp only [am, amV, amM, amH, amL, amC, and_self, if_true, if_false, Nat.reduceAdd, Nat.reduceMul, Nat.reduceLeDiff, Nat.reduceLT, Nat.reduceEqDiff, decide_eq_true_eq, Bool.false_eq_true, decide_true, decide_false, cond_true, cond_false, Bool.not_true, Bool.not_false]
      have hb : by_ acc ++ [[.i .u8 ((m % 128 + 128 : Nat) : Int)]] = by_ (acc ++ [((m % 128 + 128 : Nat) : Int)]) := by simp [by_]
      rw [hb]
      refine ih (m / 128) (by omega) n _ (by simp at hn; omega) (by omega) (by simp at hl ⊢; omega) fun acc' l hl' he => hk acc' l hl' (by rw [he]; simp)
    · have h' : ¬ (m : Int) > 127 := by omega
      rw [enc_small h] at hk
      simp only [am, amV, amM, amH, amL, amC, and_self, if_true, if_false, Nat.reduceAdd, Nat.reduceMul, Nat.reduceLeDiff, Nat.reduceLT, Nat.reduceEqDiff, decide_eq_true_eq, Bool.false_eq_true, decide_true, decide_false, cond_true, cond_false, Bool.not_true, Bool.not_false, h']
      exact hk acc m (by omega) rfl

/-- A result that is a row of its own, or nothing. -/
theorem own_g {sg : SigD} (ho : sg.own = true) (hr : sg.res = .li [.at_]) (T : Nat) {l : List (List V)} (hl : ∀ c ∈ l, ∃ v, c = [v] ∧ plainV v = true) (h : K (gV .zs H.length 1 l) (gH H T 1 l)) : backD sg H K (gV .zs ([] : Heap).length 1 l) (gH [] T 1 l) := by
  cases l with
  | nil =>
    rw [gV_nil, gH_nil] at *
    rw [back_own ho (by rw [hr]; exact own_zs ..)]
    simpa using h
  | cons a l =>
    have hp : allS (ownCs [⟨T, 1, false, a :: l⟩] H.length [.at_]) (a :: l) [] = some (a :: l, []) := by
      refine allS_plain _ _ fun c hc acc => ?_
      obtain ⟨v, rfl, hv⟩ := hl c hc
      exact ownCs_cons (by simp only [ownV, hv]) (ownCs_nil ..)
    have := own_rw (cs := [.at_]) (H := [⟨T, 1, false, a :: l⟩]) (b := H.length) (r := 0) (n := (a :: l).length) (e := T) (row_0 _ _) rfl hp (newOwn_nil ..)
    rw [gV_ne (by simp), gH_ne (by simp)]
    rw [back_own ho (by rw [hr]; exact this)]
    exact h

theorem plain_by (l : List Int) : ∀ c ∈ by_ l, ∃ v, c = [v] ∧ plainV v = true := by
  intro c hc
  simp only [by_, List.mem_map] at hc
  obtain ⟨n, _, rfl⟩ := hc
  exact ⟨_, rfl, rfl⟩

theorem impl_PackNum_ok {x : Int} (hx : I64 x) (hb : 8192 ≤ k)
    (hk' : K (gV .ns H.length 1 (by_ (pack x))) (gH H 5 1 (by_ (pack x)))) : CC (k + 1) 12 [.i .i64 x] H K := by
  have hk : K (if pack x = [] then .ns else .rw H.length 1 (pack x).length) (gH H 5 1 (by_ (pack x))) := by
    split
    · rename_i h
      rw [h] at hk' ⊢
      exact hk'
    · rename_i h
      rw [gV_ne (by simpa [by_] using h), by_len] at hk'
      exact hk'
  rw [c_impl_PackNum (x0s := .i .i64 x) _ _ _ (by simp only [am, amV, amM, amH, amL, amC, and_self, if_true, if_false, Nat.reduceAdd, Nat.reduceMul, Nat.reduceLeDiff, Nat.reduceLT, Nat.reduceEqDiff, decide_eq_true_eq, Bool.false_eq_true, decide_true, decide_false, cond_true, cond_false, Bool.not_true, Bool.not_false, amS])]
  unfold impl_PackNum
  unfold I64 at hx
  have fin : ¬ (x < -4611686018427387904 ∨ 4611686018427387904 ≤ x) → ∀ m : Nat, m = zig x → dBlk (fun k5 => dLoop k (impl_PackNum_l0 (CC k) k k5) [.i .u64 (m : Int), .zs] []) (fun s H_1 =>
      dOpt (cvtV .u8 (s.headD .un)) fun x36 => dOpt (litV 1 [.i .u8 0] 1 [(0, x36)]) fun x37 => dOpt2 (appV 5 1 1 (s.tail.headD .un) x37 H_1) fun x38 H_2 => backD g_impl_PackNum H K x38 H_2) := by
    rintro hr m rfl
    have hz := zig_lt hr
    have hp : pack x = enc (zig x) := by unfold pack; rw [if_neg hr]
    have hl9 := enc_len9 hz
    simp only [am, amV, amM, amH, amL, amC, and_self, if_true, if_false, Nat.reduceAdd, Nat.reduceMul, Nat.reduceLeDiff, Nat.reduceLT, Nat.reduceEqDiff, decide_eq_true_eq, Bool.false_eq_true, decide_true, decide_false, cond_true, cond_false, Bool.not_true, Bool.not_false]
    refine impl_pack_l0 [] (zig x) k [] (by omega) hz (by simp; omega) fun acc' l hl he => ?_
    have hpk : pack x = acc' ++ [(l : Int)] := by rw [hp, he]; rfl
    have hne : pack x ≠ [] := by rw [hpk]; simp
    simp only [am, amV, amM, amH, amL, amC, and_self, if_true, if_false, Nat.reduceAdd, Nat.reduceMul, Nat.reduceLeDiff, Nat.reduceLT, Nat.reduceEqDiff, decide_eq_true_eq, Bool.false_eq_true, decide_true, decide_false, cond_true, cond_false, Bool.not_true, Bool.not_false]
    rw [wu8 (by omega) (by omega), app_g (H := []) (b := 0) rfl (xs := [[.i .u8 (l : Int)]]) (.inr rfl) (by decide) (el_tl ..) (by
      have : acc'.length + 1 = (enc (zig x)).length := by rw [← hp, hpk]; simp
      unfold Room; simp [by_len]; omega)]
    simp only [am, amV, amM, amH, amL, amC, and_self, if_true, if_false, Nat.reduceAdd, Nat.reduceMul, Nat.reduceLeDiff, Nat.reduceLT, Nat.reduceEqDiff, decide_eq_true_eq, Bool.false_eq_true, decide_true, decide_false, cond_true, cond_false, Bool.not_true, Bool.not_false]
    rw [show by_ acc' ++ [[.i .u8 (l : Int)]] = by_ (pack x) by rw [hpk]; simp [by_]]
    refine own_g rfl rfl _ (plain_by _) ?_
    rw [if_neg hne] at hk
    rw [gV_ne (by simpa [by_] using hne), by_len]
    exact hk
  by_cases h1 : x ≥ 4611686018427387904
  · have hp : pack x = [] := by unfold pack; rw [if_pos (by omega)]
    rw [hp] at hk
    simp only [am, amV, amM, amH, amL, amC, and_self, if_true, if_false, Nat.reduceAdd, Nat.reduceMul, Nat.reduceLeDiff, Nat.reduceLT, Nat.reduceEqDiff, decide_eq_true_eq, Bool.false_eq_true, decide_true, decide_false, cond_true, cond_false, Bool.not_true, Bool.not_false, h1]
    rw [back_own rfl (own_ns ..)]
    simpa [by_, gH_nil] using hk
  · by_cases h2 : x < -4611686018427387904
    · have hp : pack x = [] := by unfold pack; rw [if_pos (by omega)]
      rw [hp] at hk
      simp only [am, amV, amM, amH, amL, amC, and_self, if_true, if_false, Nat.reduceAdd, Nat.reduceMul, Nat.reduceLeDiff, Nat.reduceLT, Nat.reduceEqDiff, decide_eq_true_eq, Bool.false_eq_true, decide_true, decide_false, cond_true, cond_false, Bool.not_true, Bool.not_false, h1, h2]
      rw [back_own rfl (own_ns ..)]
      simpa [by_, gH_nil] using hk
    · have hr : ¬ (x < -4611686018427387904 ∨ 4611686018427387904 ≤ x) := by omega
      have f := fin hr (zig x) rfl
      by_cases h3 : x < 0
      · by_cases h4 : x = -4611686018427387904
        · have e : (9223372036854775807 : Int) = ((zig x : Nat) : Int) := by
            unfold zig
            rw [if_pos h3]
            omega
          simp only [am, amV, amM, amH, amL, amC, and_self, if_true, if_false, Nat.reduceAdd, Nat.reduceMul, Nat.reduceLeDiff, Nat.reduceLT, Nat.reduceEqDiff, decide_eq_true_eq, Bool.false_eq_true, decide_true, decide_false, cond_true, cond_false, Bool.not_true, Bool.not_false, h1, h2, h3, e, eq_true h4] at f ⊢
          exact f
        · have e : IntKind.u64.wrap (IntKind.i64.wrap (IntKind.i64.wrap (-2 * x) - 1)) = ((zig x : Nat) : Int) := by
            unfold zig
            rw [w64 (n := -2 * x) (by omega) (by omega), w64 (by omega) (by omega), wraps_u64 _ (by omega) (by omega), if_pos h3]
            omega
          simp only [am, amV, amM, amH, amL, amC, and_self, if_true, if_false, Nat.reduceAdd, Nat.reduceMul, Nat.reduceLeDiff, Nat.reduceLT, Nat.reduceEqDiff, decide_eq_true_eq, Bool.false_eq_true, decide_true, decide_false, cond_true, cond_false, Bool.not_true, Bool.not_false, h1, h2, h3, h4, e] at f ⊢
          exact f
      · have e : IntKind.u64.wrap (IntKind.i64.wrap (2 * x)) = ((zig x : Nat) : Int) := by
          unfold zig
          rw [w64 (by omega) (by omega), wraps_u64 _ (by omega) (by omega), if_neg h3]
          omega
        simp only [am, amV, amM, amH, amL, amC, and_self, if_true, if_false, Nat.reduceAdd, Nat.reduceMul, Nat.reduceLeDiff, Nat.reduceLT, Nat.reduceEqDiff, decide_eq_true_eq, Bool.false_eq_true, decide_true, decide_false, cond_true, cond_false, Bool.not_true, Bool.not_false, h1, h2, h3, e] at f ⊢
        exact f

theorem l1In_ok (x lo hi : Int) : CC (k + 1) 55 [.i .i64 x, .i .i64 lo, .i .i64 hi] H K = K (.b (decide (lo ≤ x ∧ x ≤ hi))) H := by
  rw [c_spec_l1In (x0s := .i .i64 x) (x1s := .i .i64 lo) (x2s := .i .i64 hi) _ _ _ (by simp only [am, amV, amM, amH, amL, amC, and_self, if_true, if_false, Nat.reduceAdd, Nat.reduceMul, Nat.reduceLeDiff, Nat.reduceLT, Nat.reduceEqDiff, decide_eq_true_eq, Bool.false_eq_true, decide_true, decide_false, cond_true, cond_false, Bool.not_true, Bool.not_false, amS])]
  unfold spec_l1In
  by_cases h1 : x ≥ lo <;> by_cases h2 : x ≤ hi <;> simp only [am, amV, amM, amH, amL, amC, and_self, if_true, if_false, Nat.reduceAdd, Nat.reduceMul, Nat.reduceLeDiff, Nat.reduceLT, Nat.reduceEqDiff, decide_eq_true_eq, Bool.false_eq_true, decide_true, decide_false, cond_true, cond_false, Bool.not_true, Bool.not_false, h1, h2, and_true, and_false, false_and] <;> rw [back_seal rfl (seal_b ..)]

theorem in_ok (x lo hi : Int) : CC (k + 1) 56 [.i .i64 x, .i .i64 lo, .i .i64 hi] H K = K (.b (decide (lo ≤ x ∧ x ≤ hi))) H := by
  rw [c_impl_in (x0s := .i .i64 x) (x1s := .i .i64 lo) (x2s := .i .i64 hi) _ _ _ (by simp only [am, amV, amM, amH, amL, amC, and_self, if_true, if_false, Nat.reduceAdd, Nat.reduceMul, Nat.reduceLeDiff, Nat.reduceLT, Nat.reduceEqDiff, decide_eq_true_eq, Bool.false_eq_true, decide_true, decide_false, cond_true, cond_false, Bool.not_true, Bool.not_false, amS])]
  unfold impl_in
  by_cases h1 : x ≥ lo <;> by_cases h2 : x ≤ hi <;> simp only [am, amV, amM, amH, amL, amC, and_self, if_true, if_false, Nat.reduceAdd, Nat.reduceMul, Nat.reduceLeDiff, Nat.reduceLT, Nat.reduceEqDiff, decide_eq_true_eq, Bool.false_eq_true, decide_true, decide_false, cond_true, cond_false, Bool.not_true, Bool.not_false, h1, h2, and_true, and_false, false_and] <;> rw [back_seal rfl (seal_b ..)]

theorem spec_pack_l0 {C : Call1} {N : Nat} {k3 : List V → Heap → Prop} (H0 : Heap) (m : Nat) : ∀ (n : Nat) (acc : List Int), (enc m).length ≤ n → m < 2 ^ 63 → acc.length + (enc m).length ≤ 1000 →
    (∀ (acc' : List Int) (l : Nat), l ≤ 127 → acc' ++ [(l : Int)] = acc ++ enc m → k3 [gV .zs H0.length 1 (by_ acc'), .i .i64 l] (gH H0 5 1 (by_ acc'))) →
    dLoop n (spec_PackNum_l0 C N k3) [gV .zs H0.length 1 (by_ acc), .i .i64 m] (gH H0 5 1 (by_ acc)) := by
  induction m using Nat.strongRecOn with
  | _ m ih =>
    intro n acc hn hm hl hk
    have hpos : 0 < (enc m).length := by
      by_cases h : m > 127
      · rw [enc_big h]; simp
      · rw [enc_small h]; simp
    obtain ⟨n, rfl⟩ : ∃ j, n = j + 1 := ⟨n - 1, by omega⟩
    simp only [dLoop]
    rw [spec_PackNum_l0]
    by_cases h : m > 127
    · have h' : (m : Int) > 127 := by omega
      rw [enc_big h] at hl hk hn
      have ha : IntKind.i64.wrap (Int.tmod m 128 + 128) = ((m % 128 + 128 : Nat) : Int) := by
        rw [Int.tmod_eq_emod_of_nonneg (by omega), w64 (by omega) (by omega)]; omega
      have hc : IntKind.u8.wrap ((m % 128 + 128 : Nat) : Int) = ((m % 128 + 128 : Nat) : Int) := by rw [wu8 (by omega) (by omega)]
      have hq : IntKind.i64.wrap (Int.tdiv m 128) = ((m / 128 : Nat) : Int) := by
        rw [Int.tdiv_eq_ediv_of_nonneg (by omega), w64 (by omega) (by omega)]; omega
      simp only [am, amV, amM, amH, amL, amC, and_self, if_true, if_false, Nat.reduceAdd, Nat.reduceMul, Nat.reduceLeDiff, Nat.reduceLT, Nat.reduceEqDiff, decide_eq_true_eq, Bool.false_eq_true, decide_true, decide_false, cond_true, cond_false, Bool.not_true, Bool.not_false, h', bin_rem _ _ _ (by decide : (128 : Int) ≠ 0), bin_quo _ _ _ (by decide : (128 : Int) ≠ 0), ha, hc, hq]
      rw [app_g (H := H0) rfl (xs := [[.i .u8 ((m % 128 + 128 : Nat) : Int)]]) (.inr rfl) (by decide) (el_tl ..) (by unfold Room; simp [by_len] at hl ⊢; omega)]
      simp only [am, amV, amM, amH, amL, amC, and_self, if_true, if_false, Nat.reduceAdd, Nat.reduceMul, Nat.reduceLeDiff, Nat.reduceLT, Nat.reduceEqDiff, decide_eq_true_eq, Bool.false_eq_true, decide_true, decide_false, cond_true, cond_false, Bool.not_true, Bool.not_false]
      have hb : by_ acc ++ [[.i .u8 ((m % 128 + 128 : Nat) : Int)]] = by_ (acc ++ [((m % 128 + 128 : Nat) : Int)]) := by simp [by_]
      rw [hb]
      refine ih (m / 128) (by omega) n _ (by simp at hn; omega) (by omega) (by simp at hl ⊢; omega) fun acc' l hl' he => hk acc' l hl' (by rw [he]; simp)
    · have h' : ¬ (m : Int) > 127 := by omega
      rw [enc_small h] at hk
      simp only [am, amV, amM, amH, amL, amC, and_self, if_true, if_false, Nat.reduceAdd, Nat.reduceMul, Nat.reduceLeDiff, Nat.reduceLT, Nat.reduceEqDiff, decide_eq_true_eq, Bool.false_eq_true, decide_true, decide_false, cond_true, cond_false, Bool.not_true, Bool.not_false, h']
      exact hk acc m (by omega) rfl

theorem spec_PackNum_ok {x : Int} (hx : I64 x) (hb : 8192 ≤ k) (hk : K (gV .zs H.length 1 (by_ (pack x))) (gH H 5 1 (by_ (pack x)))) : CC (k + 2) 13 [.i .i64 x] H K := by
  rw [c_spec_PackNum (x0s := .i .i64 x) _ _ _ (by simp only [am, amV, amM, amH, amL, amC, and_self, if_true, if_false, Nat.reduceAdd, Nat.reduceMul, Nat.reduceLeDiff, Nat.reduceLT, Nat.reduceEqDiff, decide_eq_true_eq, Bool.false_eq_true, decide_true, decide_false, cond_true, cond_false, Bool.not_true, Bool.not_false, amS])]
  unfold spec_PackNum
  unfold I64 at hx
  rw [l1In_ok]
  have fin : ¬ (x < -4611686018427387904 ∨ 4611686018427387904 ≤ x) → ∀ m : Nat, m = zig x → dBlk (fun k3 => dLoop (k + 1) (spec_PackNum_l0 (CC (k + 1)) (k + 1) k3) [.zs, .i .i64 (m : Int)] []) (fun s H_1 =>
      dOpt (cvtV .u8 (s.tail.headD .un)) fun x36 => dOpt (litV 1 [.i .u8 0] 1 [(0, x36)]) fun x37 => dOpt2 (appV 5 1 1 (s.headD .un) x37 H_1) fun x38 H_2 => backD g_spec_PackNum H K x38 H_2) := by
    rintro hr m rfl
    have hz := zig_lt hr
    have hp : pack x = enc (zig x) := by unfold pack; rw [if_neg hr]
    have hl9 := enc_len9 hz
    simp only [am, amV, amM, amH, amL, amC, and_self, if_true, if_false, Nat.reduceAdd, Nat.reduceMul, Nat.reduceLeDiff, Nat.reduceLT, Nat.reduceEqDiff, decide_eq_true_eq, Bool.false_eq_true, decide_true, decide_false, cond_true, cond_false, Bool.not_true, Bool.not_false]
    refine spec_pack_l0 [] (zig x) (k + 1) [] (by omega) hz (by simp; omega) fun acc' l hl he => ?_
    have hpk : pack x = acc' ++ [(l : Int)] := by rw [hp, he]; rfl
    simp only [am, amV, amM, amH, amL, amC, and_self, if_true, if_false, Nat.reduceAdd, Nat.reduceMul, Nat.reduceLeDiff, Nat.reduceLT, Nat.reduceEqDiff, decide_eq_true_eq, Bool.false_eq_true, decide_true, decide_false, cond_true, cond_false, Bool.not_true, Bool.not_false]
    rw [wu8 (by omega) (by omega), app_g (H := []) (b := 0) rfl (xs := [[.i .u8 (l : Int)]]) (.inr rfl) (by decide) (el_tl ..) (by
      have : acc'.length + 1 = (enc (zig x)).length := by rw [← hp, hpk]; simp
      unfold Room; simp [by_len]; omega)]
    simp only [am, amV, amM, amH, amL, amC, and_self, if_true, if_false, Nat.reduceAdd, Nat.reduceMul, Nat.reduceLeDiff, Nat.reduceLT, Nat.reduceEqDiff, decide_eq_true_eq, Bool.false_eq_true, decide_true, decide_false, cond_true, cond_false, Bool.not_true, Bool.not_false]
    rw [show by_ acc' ++ [[.i .u8 (l : Int)]] = by_ (pack x) by rw [hpk]; simp [by_]]
    exact own_g rfl rfl _ (plain_by _) hk
  by_cases hr : x < -4611686018427387904 ∨ 4611686018427387904 ≤ x
  · have hp : pack x = [] := by unfold pack; rw [if_pos hr]
    rw [hp] at hk
    have hd : ¬ (-4611686018427387904 ≤ x ∧ x ≤ 4611686018427387903) := by omega
    simp only [am, amV, amM, amH, amL, amC, and_self, if_true, if_false, Nat.reduceAdd, Nat.reduceMul, Nat.reduceLeDiff, Nat.reduceLT, Nat.reduceEqDiff, decide_eq_true_eq, Bool.false_eq_true, decide_true, decide_false, cond_true, cond_false, Bool.not_true, Bool.not_false, hd]
    rw [back_own rfl (own_zs ..)]
    simpa [by_, gH_nil, gV_nil] using hk
  · have hd : -4611686018427387904 ≤ x ∧ x ≤ 4611686018427387903 := by omega
    have f := fin hr (zig x) rfl
    by_cases h3 : x < 0
    · have e : IntKind.i64.wrap (IntKind.i64.wrap (-2 * x) - 1) = ((zig x : Nat) : Int) := by
        unfold zig
        rw [if_pos h3]
        by_cases h4 : x = -4611686018427387904
        · subst h4; rfl
        · rw [w64 (n := -2 * x) (by omega) (by omega), w64 (by omega) (by omega)]
          omega
      simp only [am, amV, amM, amH, amL, amC, and_self, if_true, if_false, Nat.reduceAdd, Nat.reduceMul, Nat.reduceLeDiff, Nat.reduceLT, Nat.reduceEqDiff, decide_eq_true_eq, Bool.false_eq_true, decide_true, decide_false, cond_true, cond_false, Bool.not_true, Bool.not_false, eq_true hd, h3, e] at f ⊢
      exact f
    · have e : IntKind.i64.wrap (2 * x) = ((zig x : Nat) : Int) := by
        unfold zig
        rw [w64 (by omega) (by omega), if_neg h3]
        omega
      simp only [am, amV, amM, amH, amL, amC, and_self, if_true, if_false, Nat.reduceAdd, Nat.reduceMul, Nat.reduceLeDiff, Nat.reduceLT, Nat.reduceEqDiff, decide_eq_true_eq, Bool.false_eq_true, decide_true, decide_false, cond_true, cond_false, Bool.not_true, Bool.not_false, eq_true hd, h3, e] at f ⊢
      exact f
end
end Go.Am.Try

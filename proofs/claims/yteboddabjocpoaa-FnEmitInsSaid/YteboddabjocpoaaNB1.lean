/- What the drawing of numbers does: a number of the kind that is asked for, whatever the bytes. -/
import Derived.Test.YteboddabjocpoaaF0
import Derived.Test.YteboddabjocpoaaF1
import Derived.Test.YteboddabjocpoaaF2
import Derived.Test.YteboddabjocpoaaF3
import Derived.Test.YteboddabjocpoaaAm6
import Derived.Test.YteboddabjocpoaaPackMath
set_option linter.all false
namespace Go.Am.Try
open Go Go.Am

def by_ (l : List Int) : List (List V) := l.map fun n => [.i .u8 n]
def in_ (l : List Int) : List (List V) := l.map fun n => [.i .i64 n]
theorem by_len (l : List Int) : (by_ l).length = l.length := by simp [by_]
theorem by_get (l : List Int) (i : Nat) (h : i < (by_ l).length) : (by_ l)[i] = [.i .u8 (l[i]'(by simpa [by_] using h))] := by simp [by_]
theorem in_len (l : List Int) : (in_ l).length = l.length := by simp [in_]
theorem in_get (l : List Int) (i : Nat) (h : i < (in_ l).length) : (in_ l)[i] = [.i .i64 (l[i]'(by simpa [in_] using h))] := by simp [in_]
/-- The row of a cursor over bytes. -/
def cur (w : Bool) (code : List Int) (i h : Int) : Row := ⟨152, 3, true, [[.tl w 1 (by_ code), .i .i64 i, .i .i64 h]]⟩

/-- What a draw may leave behind: the cursor's row turned. -/
def Drawn (K : V → Heap → Prop) (H : Heap) (r : Nat) (w : Bool) (code : List Int) (p : Int → Prop) : Prop := ∀ x i' h', p x → 0 ≤ i' → K (.i .i64 x) (H.set r (cur w code i' h'))

section
variable {k : Nat} {H : Heap} {r : Nat} {w : Bool} {code : List Int} {i h : Int} {K : V → Heap → Prop}

theorem l1Byte_ok (hc : code.length ≤ 1152921504606846976) (hr : row? H r = some (cur w code i h)) (hi : 0 ≤ i) (hk : Drawn K H r w code fun x => 0 ≤ x ∧ x ≤ 255) : CC (k + 1) 58 [.p r 3 1 0 0] H K := by
  rw [c_spec_l1Byte]
  unfold spec_l1Byte
  unfold cur at hr
  unfold Drawn cur at hk
  simp only [am, amV, amM, amH, amL, amC, and_self, if_true, if_false, Nat.reduceAdd, Nat.reduceMul, Nat.reduceLeDiff, Nat.reduceLT, Nat.reduceEqDiff, decide_eq_true_eq, Bool.false_eq_true, decide_true, decide_false, cond_true, cond_false, Bool.not_true, Bool.not_false, hr, row_set _ hr, bin_shr _ _ _ _ (by decide : (0:Int) ≤ 33 ∧ (33:Int) ≤ IntKind.i64.bits), bin_shr _ _ _ _ (by decide : (0:Int) ≤ 45 ∧ (45:Int) ≤ IntKind.i64.bits), decide_eq_true_eq, by_len]
  split
  · rename_i hlt
    rw [idx_tl hi (by rw [by_len]; omega), by_get]
    simp only [am, amV, amM, amH, amL, amC]
    exact hk _ _ _ (and255 _) (by rw [w64 (by omega) (by omega)]; omega)
  · exact hk _ _ _ (and255 _) hi

theorem cur_set (hr : row? H r = some (cur w code i h)) (i' h' : Int) : row? (H.set r (cur w code i' h')) r = some (cur w code i' h') := row_set _ hr
theorem Drawn.set {p : Int → Prop} (hk : Drawn K H r w code p) (i' h' : Int) : Drawn K (H.set r (cur w code i' h')) r w code p := fun x i2 h2 hp hi => by rw [set_set]; exact hk x i2 h2 hp hi
theorem Drawn.imp {p q : Int → Prop} (hk : Drawn K H r w code p) (h : ∀ x, q x → p x) : Drawn K H r w code q := fun x i h' hq hi => hk x i h' (h x hq) hi

theorem set_self (hr : row? H r = some (cur w code i h)) : H.set r (cur w code i h) = H := by
  unfold row? at hr
  refine List.ext_getElem? fun n => ?_
  rw [List.getElem?_set]
  split
  · rename_i e; subst e; rw [hr]; simp [(List.getElem?_eq_some_iff.1 hr).1]
  · rfl

theorem l1Below_ok (hc : code.length ≤ 1152921504606846976) (hr : row? H r = some (cur w code i h)) (hi : 0 ≤ i) {n : Int} (hk : Drawn K H r w code fun x => (n ≤ 0 → x = 0) ∧ (0 < n → 0 ≤ x ∧ x < n)) : CC (k + 2) 57 [.p r 3 1 0 0, .i .i64 n] H K := by
  rw [c_spec_l1Below]
  unfold spec_l1Below
  simp only [am, amV, decide_eq_true_eq]
  split
  · have := hk 0 i h ⟨fun _ => rfl, fun _ => by omega⟩ hi
    rw [set_self hr] at this
    exact this
  · rename_i h0
    split
    · refine l1Byte_ok hc hr hi fun x i' h' hx hi' => ?_
      rw [bin_rem _ _ _ (by omega)]
      simp only [am]
      refine hk _ _ _ ⟨fun _ => by omega, fun _ => ?_⟩ hi'
      rw [Int.tmod_eq_emod_of_nonneg hx.1]
      exact ⟨Int.emod_nonneg _ (by omega), Int.emod_lt_of_pos _ (by omega)⟩
    · refine l1Byte_ok hc hr hi fun x1 i1 h1 hx1 hi1 => ?_
      refine l1Byte_ok hc (cur_set hr _ _) hi1 fun x2 i2 h2 hx2 hi2 => ?_
      rw [set_set]
      refine l1Byte_ok hc (cur_set hr _ _) hi2 fun x3 i3 h3 hx3 hi3 => ?_
      rw [set_set]
      refine l1Byte_ok hc (cur_set hr _ _) hi3 fun x4 i4 h4 hx4 hi4 => ?_
      rw [set_set]
      rw [bin_mul, bin_mul, bin_mul]
      simp only [am, amV]
      rw [bin_rem _ _ _ (by omega)]
      simp only [am]
      refine hk _ _ _ ⟨fun _ => by omega, fun _ => ?_⟩ hi4
      rw [w64 (n := x1 * 16777216) (by omega) (by omega), w64 (n := x2 * 65536) (by omega) (by omega), w64 (n := x3 * 256) (by omega) (by omega), w64 (n := x1 * 16777216 + x2 * 65536) (by omega) (by omega), w64 (n := x1 * 16777216 + x2 * 65536 + x3 * 256) (by omega) (by omega), w64 (by omega) (by omega)]
      rw [Int.tmod_eq_emod_of_nonneg (by omega)]
      exact ⟨Int.emod_nonneg _ (by omega), Int.emod_lt_of_pos _ (by omega)⟩

theorem l1Once_ok (hc : code.length ≤ 1152921504606846976) (hr : row? H r = some (cur w code i h)) (hi : 0 ≤ i) {n : Int} (hk : ∀ q i' h', 0 ≤ i' → K (.b q) (H.set r (cur w code i' h'))) : CC (k + 3) 52 [.p r 3 1 0 0, .i .i64 n] H K := by
  rw [c_spec_l1Once]
  unfold spec_l1Once
  refine l1Below_ok hc hr hi fun x i' h' _ hi' => ?_
  simp only [am, amV]
  exact hk _ _ _ hi'

theorem l1PickInt_ok (hc : code.length ≤ 1152921504606846976) (hr : row? H r = some (cur w code i h)) (hi : 0 ≤ i) {w' : Bool} {l : List Int} (h0 : 0 < l.length) (hk : Drawn K H r w code fun x => x ∈ l) : CC (k + 3) 53 [.p r 3 1 0 0, .tl w' 1 (in_ l)] H K := by
  rw [c_spec_l1PickInt]
  unfold spec_l1PickInt
  simp only [am, amV, amM, in_len]
  refine l1Below_ok hc hr hi fun x i' h' hx hi' => ?_
  have hx := hx.2 (by omega)
  rw [idx_tl hx.1 (by rw [in_len]; omega), in_get]
  simp only [am, amV, amM, amH, amL, amC]
  exact hk _ _ _ (List.getElem_mem _) hi'

def I64 (x : Int) : Prop := -9223372036854775808 ≤ x ∧ x ≤ 9223372036854775807

theorem l1DrawNum_ok (hc : code.length ≤ 1152921504606846976) (hr : row? H r = some (cur w code i h)) (hi : 0 ≤ i) (hk : Drawn K H r w code I64) : CC (k + 4) 54 [.p r 3 1 0 0] H K := by
  rw [c_spec_l1DrawNum]
  unfold spec_l1DrawNum
  refine l1Once_ok hc hr hi fun q i' h' hi' => ?_
  simp only [am]
  split
  · simp only [am, amV, amM, amH, amL, amC, and_self, if_true, if_false, Nat.reduceAdd, Nat.reduceMul, Nat.reduceLeDiff, Nat.reduceLT, Nat.reduceEqDiff, decide_eq_true_eq, Bool.false_eq_true, decide_true, decide_false, cond_true, cond_false, Bool.not_true, Bool.not_false]
    refine l1PickInt_ok (l := [9223372036854775807, -9223372036854775808, 4294967296, -1, 63, 64, 1000000007]) hc (cur_set hr _ _) hi' (by decide) fun x i2 h2 hx hi2 => ?_
    rw [set_set]
    refine hk _ _ _ ?_ hi2
    unfold I64
    simp only [List.mem_cons, List.not_mem_nil, or_false] at hx
    omega
  · refine l1Below_ok hc (cur_set hr _ _) hi' fun x i' h' hx hi' => ?_
    rw [set_set]
    simp only [am, amV]
    exact hk _ _ _ (w64_bd _) hi'
end
end Go.Am.Try

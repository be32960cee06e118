/- The law on numbers and their bytes, by the machine. -/
import Derived.Test.YteboddabjocpoaaNB5
set_option linter.all false
namespace Go.Am.Try
open Go Go.Am

section
variable {k : Nat} {H : Heap} {K : V → Heap → Prop}

theorem big_ok {w : Bool} {code : List Int} : CC (k + 1) 10 [.tl w 1 (by_ code)] H K = K (.b (decide ((code.length : Int) > 1048576))) H := by
  rw [c_laws_big (x0s := .tl true 1 (by_ code)) _ _ _ (by simp only [am, amV, amM, amH, amL, amC, and_self, if_true, if_false, Nat.reduceAdd, Nat.reduceMul, Nat.reduceLeDiff, Nat.reduceLT, Nat.reduceEqDiff, decide_eq_true_eq, Bool.false_eq_true, decide_true, decide_false, cond_true, cond_false, Bool.not_true, Bool.not_false, amS, seal_by])]
  unfold laws_big
  simp only [am, amV, amM, amH, amL, amC, and_self, if_true, if_false, Nat.reduceAdd, Nat.reduceMul, Nat.reduceLeDiff, Nat.reduceLT, Nat.reduceEqDiff, decide_eq_true_eq, Bool.false_eq_true, decide_true, decide_false, cond_true, cond_false, Bool.not_true, Bool.not_false, by_len]
  rw [back_seal rfl (seal_b ..)]

/-- The bytes of a list, as a string. -/
def strB (l : List Int) : ByteArray := ⟨(l.map fun n => UInt8.ofNat n.toNat).toArray⟩
theorem bytesOf_by (l : List Int) : bytesOf (by_ l) = some (l.map fun n => UInt8.ofNat n.toNat) := by
  induction l with
  | nil => rfl
  | cons a l ih =>
    have : by_ (a :: l) = [.i .u8 a] :: by_ l := rfl
    rw [this]
    simp only [bytesOf, ih, Option.map_some, List.map_cons]
theorem b2s_of {x : V} {H : Heap} {l : List Int} (h : elems H 1 x = some (by_ l)) : b2sV x H = some (.s (strB l)) := by
  unfold b2sV
  rw [h, Option.bind_some]
  simp only [qsof, bytesOf_by, Option.map_some]
  rfl
theorem neq_s (a : ByteArray) : binV .neq (.s a) (.s a) = some (.b false) := by
  show some (V.b (!(qseq a a))) = _
  simp [qseq]
theorem eql_s (a : ByteArray) : binV .eql (.s a) (.s a) = some (.b true) := by
  show some (V.b (qseq a a)) = _
  simp [qseq]
theorem cut_tl {z : Nat} {w : Bool} {es : List (List V)} {l h : Int} (h0 : 0 ≤ l) (h1 : l ≤ h) (h2 : h ≤ es.length) : cutLV z (.tl w z es) (some (.i .i64 l)) (some (.i .i64 h)) none = some (.tl w z ((es.drop l.toNat).take (h.toNat - l.toNat))) := by
  have q1 : qupTo h (qlen es) = true := by unfold qupTo qlen; exact decide_eq_true ⟨by omega, by omega⟩
  have q2 : qupTo l (qtoN h) = true := by unfold qupTo qtoN; exact decide_eq_true ⟨h0, by omega⟩
  simp only [cutLV, if_true, boundV, q1, q2, Option.bind_some]
  rfl
theorem unpacked_range {b : List Int} (hb : Bytes b) {at_ z e : Int} (h : unpacked b at_ = (z, e, true)) : I64 z := by
  obtain ⟨h1, h2, h3, h4⟩ := pack_unpack b hb at_ z e h
  have : pack z ≠ [] := by
    rw [h4]
    intro he
    have := congrArg List.length he
    simp at this
    omega
  unfold pack at this
  unfold I64
  split at this
  · exact absurd rfl this
  · omega

theorem FnNumBytes_ok {w : Bool} {code : List Int} (hb : 8192 ≤ k) (hk : ∀ H', K (.b true) H') : CC (k + 7) 3 [.tl w 1 (by_ code)] [] K := by
  rw [c_laws_FnNumBytes]
  unfold laws_FnNumBytes
  rw [big_ok]
  simp only [am, amV, amM, amH, amL, amC, and_self, if_true, if_false, Nat.reduceAdd, Nat.reduceMul, Nat.reduceLeDiff, Nat.reduceLT, Nat.reduceEqDiff, decide_eq_true_eq, Bool.false_eq_true, decide_true, decide_false, cond_true, cond_false, Bool.not_true, Bool.not_false]
  split
  · exact hk _
  · have hc : code.length ≤ 1152921504606846976 := by omega
    refine DrawPackNum_ok (k := k + 1) hc (by omega) fun x hx => ?_
    refine impl_PackNum_ok hx (by omega) ?_
    rw [b2s_of (el_g rfl (.inl rfl))]
    simp only [am, amV, amM, amH, amL, amC, and_self, if_true, if_false, Nat.reduceAdd, Nat.reduceMul, Nat.reduceLeDiff, Nat.reduceLT, Nat.reduceEqDiff, decide_eq_true_eq, Bool.false_eq_true, decide_true, decide_false, cond_true, cond_false, Bool.not_true, Bool.not_false]
    refine spec_PackNum_ok hx (by omega) ?_
    rw [b2s_of (el_g rfl (.inr rfl))]
    simp only [am, amV, amM, amH, amL, amC, and_self, if_true, if_false, Nat.reduceAdd, Nat.reduceMul, Nat.reduceLeDiff, Nat.reduceLT, Nat.reduceEqDiff, decide_eq_true_eq, Bool.false_eq_true, decide_true, decide_false, cond_true, cond_false, Bool.not_true, Bool.not_false, neq_s]
    refine ⟨b2s_of (el_gV (.inl rfl) fun h => gH_row (gH_at rfl h)), ?_⟩
    have hin : elemsIn true true (gH (gH [] 5 1 (by_ (pack x))) 5 1 (by_ (pack x))) 1 (gV .ns 0 1 (by_ (pack x))) = some (by_ (pack x)) := in_gV (.inl rfl) fun h => gH_row (gH_at (H := []) (b := 0) rfl h)
    refine impl_UnpackNum_ok (b := pack x) hin (pack_bytes x) (by have := pack_len x; omega) (by omega) 0 ?_
    rw [unpack_pack]
    have hlen : lenV false (gV .ns 0 1 (by_ (pack x))) = some (.i .i64 ((pack x).length : Int)) := by rw [len_gV (.inl rfl), by_len]
    generalize gH (gH ([] : Heap) _ 1 (by_ (pack x))) _ 1 (by_ (pack x)) = H1
    clear hin
    by_cases hp : (pack x).length > 0
    case' pos =>
      have hp' : ((pack x).length : Int) > 0 := by omega
      rw [if_pos hp]
    case' neg =>
      have hp' : ¬ ((pack x).length : Int) > 0 := by omega
      rw [if_neg hp]
    all_goals
      simp only [tupR, am, amV, amM, amH, amL, amC, and_self, if_true, if_false, Nat.reduceAdd, Nat.reduceMul, Nat.reduceLeDiff, Nat.reduceLT, Nat.reduceEqDiff, decide_eq_true_eq, Bool.false_eq_true, decide_true, decide_false, cond_true, cond_false, Bool.not_true, Bool.not_false, hlen, hp', beq_self_eq_true]
      clear hlen hp' hp
      refine DrawUnpackNum_ok (k := k + 1) hc (by omega) fun raw at_ hB hL => ?_
      simp only [am, amV, amM, amH, amL, amC, and_self, if_true, if_false, Nat.reduceAdd, Nat.reduceMul, Nat.reduceLeDiff, Nat.reduceLT, Nat.reduceEqDiff, decide_eq_true_eq, Bool.false_eq_true, decide_true, decide_false, cond_true, cond_false, Bool.not_true, Bool.not_false]
      refine impl_UnpackNum_ok (k := k + 4) (in_tlf ..) hB (by omega) (by omega) at_ ?_
      have hI := fun z e h => unpacked_range (z := z) (e := e) hB (at_ := at_) h
      have hP := fun z e h => pack_unpack raw hB at_ z e h
      rcases unpacked_or raw at_ with ⟨z, e, hu⟩ | hu
      · rw [hu]
        simp only [tupR, am, amV, amM, amH, amL, amC, and_self, if_true, if_false, Nat.reduceAdd, Nat.reduceMul, Nat.reduceLeDiff, Nat.reduceLT, Nat.reduceEqDiff, decide_eq_true_eq, Bool.false_eq_true, decide_true, decide_false, cond_true, cond_false, Bool.not_true, Bool.not_false]
        refine spec_UnpackNum_ok (k := k + 5) (in_tlf ..) hB (by omega) (by omega) at_ ?_
        rw [hu]
        obtain ⟨p0, p1, p2, p3⟩ := hP z e hu
        have p1' : e > at_ := p1
        simp only [tupR, am, amV, amM, amH, amL, amC, and_self, if_true, if_false, Nat.reduceAdd, Nat.reduceMul, Nat.reduceLeDiff, Nat.reduceLT, Nat.reduceEqDiff, decide_eq_true_eq, Bool.false_eq_true, decide_true, decide_false, cond_true, cond_false, Bool.not_true, Bool.not_false, beq_self_eq_true, p1', cut_tl p0 (Int.le_of_lt p1) (by rw [by_len]; exact p2)]
        have hs : (List.drop at_.toNat (by_ raw)).take (e.toNat - at_.toNat) = by_ (pack z) := by
          rw [p3, List.drop_take]
          simp [by_, List.map_drop, List.map_take]
        rw [hs]
        simp only [b2s_of (el_tl ..), am, amV, amM, amH, amL, amC, and_self, if_true, if_false, Nat.reduceAdd, Nat.reduceMul, Nat.reduceLeDiff, Nat.reduceLT, Nat.reduceEqDiff, decide_eq_true_eq, Bool.false_eq_true, decide_true, decide_false, cond_true, cond_false, Bool.not_true, Bool.not_false]
        refine impl_PackNum_ok (k := k + 5) (hI z e hu) (by omega) ?_
        rw [b2s_of (el_g rfl (.inl rfl))]
        simp only [am, amV, amM, amH, amL, amC, and_self, if_true, if_false, Nat.reduceAdd, Nat.reduceMul, Nat.reduceLeDiff, Nat.reduceLT, Nat.reduceEqDiff, decide_eq_true_eq, Bool.false_eq_true, decide_true, decide_false, cond_true, cond_false, Bool.not_true, Bool.not_false, eql_s]
        exact ⟨fun _ => rfl, hk _⟩
      · rw [hu]
        simp only [tupR, am, amV, amM, amH, amL, amC, and_self, if_true, if_false, Nat.reduceAdd, Nat.reduceMul, Nat.reduceLeDiff, Nat.reduceLT, Nat.reduceEqDiff, decide_eq_true_eq, Bool.false_eq_true, decide_true, decide_false, cond_true, cond_false, Bool.not_true, Bool.not_false]
        refine spec_UnpackNum_ok (k := k + 5) (in_tlf ..) hB (by omega) (by omega) at_ ?_
        rw [hu]
        simp only [tupR, am, amV, amM, amH, amL, amC, and_self, if_true, if_false, Nat.reduceAdd, Nat.reduceMul, Nat.reduceLeDiff, Nat.reduceLT, Nat.reduceEqDiff, decide_eq_true_eq, Bool.false_eq_true, decide_true, decide_false, cond_true, cond_false, Bool.not_true, Bool.not_false, beq_self_eq_true]
        exact ⟨fun h => (by cases h), hk _⟩
end
end Go.Am.Try

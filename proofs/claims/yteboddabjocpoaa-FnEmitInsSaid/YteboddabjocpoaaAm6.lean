/- Equations by which printed functions are reckoned. -/
import Derived.Test.YteboddabjocpoaaAm5
import Derived.IntWalk
import Derived.Laws.BitsLemmas
import Derived.Deep.Slices
import Derived.ChangeArms
import Derived.Below
set_option linter.all false
namespace Go.Am

abbrev I (n : Int) : V := .i .i64 n

theorem dOpt_some (v : V) (K : V → Prop) : dOpt (some v) K = K v := rfl
theorem dOpt_none (K : V → Prop) : dOpt none K = False := rfl
theorem dOpt2_some (v : V) (H : Heap) (K : V → Heap → Prop) : dOpt2 (some (v, H)) K = K v H := rfl
theorem dOpt2_none (K : V → Heap → Prop) : dOpt2 none K = False := rfl
theorem dOptH_some (H : Heap) (K : Heap → Prop) : dOptH (some H) K = K H := rfl
theorem dOptH_none (K : Heap → Prop) : dOptH none K = False := rfl
theorem dGrp_t (q : Bool) (r s : (List V → Heap → Prop) → Prop) (K : List V → Heap → Prop) : dGrp (.b q) true r s K = if q = true then r K else s K := by cases q <;> rfl
theorem dGrp_f (q : Bool) (r s : (List V → Heap → Prop) → Prop) (K : List V → Heap → Prop) : dGrp (.b q) false r s K = if q = true then s K else r K := by cases q <;> rfl
theorem dGrp_un (w : Bool) (r s : (List V → Heap → Prop) → Prop) (K : List V → Heap → Prop) : dGrp .un w r s K = s K := rfl
theorem dIf_b (q : Bool) (a d : (List V → Heap → Prop) → Prop) (K : List V → Heap → Prop) : dIf (.b q) a d K = if q = true then a K else d K := by cases q <;> rfl
theorem dBlk_eq (a : (List V → Heap → Prop) → Prop) (K : List V → Heap → Prop) : dBlk a K = a K := rfl
theorem hd_cons (a : V) (l : List V) (d : V) : (a :: l).headD d = a := rfl
theorem tl_cons (a : V) (l : List V) : (a :: l).tail = l := rfl
theorem pick_t (x y : V) : pickV (.b true) x y = some x := rfl
theorem pick_f (x y : V) : pickV (.b false) x y = some y := rfl
theorem pick_b (q u v : Bool) : pickV (.b q) (.b u) (.b v) = some (.b (bif q then u else v)) := by cases q <;> rfl

theorem bin_lss (k : IntKind) (a c : Int) : binV .lss (.i k a) (.i k c) = some (.b (decide (a < c))) := by cases k <;> rfl
theorem bin_leq (k : IntKind) (a c : Int) : binV .leq (.i k a) (.i k c) = some (.b (decide (a ≤ c))) := by cases k <;> rfl
theorem bin_gtr (k : IntKind) (a c : Int) : binV .gtr (.i k a) (.i k c) = some (.b (decide (a > c))) := by cases k <;> rfl
theorem bin_geq (k : IntKind) (a c : Int) : binV .geq (.i k a) (.i k c) = some (.b (decide (a ≥ c))) := by cases k <;> rfl
theorem bin_eql (k : IntKind) (a c : Int) : binV .eql (.i k a) (.i k c) = some (.b (decide (a = c))) := by cases k <;> rfl
theorem bin_neq (k : IntKind) (a c : Int) : binV .neq (.i k a) (.i k c) = some (.b (!decide (a = c))) := by cases k <;> rfl
theorem bin_add (k : IntKind) (a c : Int) : binV .add (.i k a) (.i k c) = some (.i k (k.wrap (a + c))) := by cases k <;> rfl
theorem bin_sub (k : IntKind) (a c : Int) : binV .sub (.i k a) (.i k c) = some (.i k (k.wrap (a - c))) := by cases k <;> rfl
theorem bin_mul (k : IntKind) (a c : Int) : binV .mul (.i k a) (.i k c) = some (.i k (k.wrap (a * c))) := by cases k <;> rfl
theorem bin_and (k : IntKind) (a c : Int) : binV .and (.i k a) (.i k c) = some (.i k (Go.bits .and k a c)) := by cases k <;> rfl
theorem bin_or (k : IntKind) (a c : Int) : binV .or (.i k a) (.i k c) = some (.i k (Go.bits .or k a c)) := by cases k <;> rfl
theorem bin_xor (k : IntKind) (a c : Int) : binV .xor (.i k a) (.i k c) = some (.i k (Go.bits .xor k a c)) := by cases k <;> rfl
theorem bin_quo (k : IntKind) (a c : Int) (h : c ≠ 0) : binV .quo (.i k a) (.i k c) = some (.i k (k.wrap (Int.tdiv a c))) := by
  have : qtest .eql c 0 = false := by simp [qtest, h]
  simp [binV, intBin, this, qbin]
theorem bin_rem (k : IntKind) (a c : Int) (h : c ≠ 0) : binV .rem (.i k a) (.i k c) = some (.i k (Int.tmod a c)) := by
  have : qtest .eql c 0 = false := by simp [qtest, h]
  simp [binV, intBin, this, qbin]
theorem bin_shl (k k' : IntKind) (a c : Int) (h : 0 ≤ c ∧ c ≤ k.bits) : binV .shl (.i k a) (.i k' c) = some (.i k (k.wrap (a * 2 ^ c.toNat))) := by
  have : qshOk k c = true := by simp [qshOk, h]
  simp [binV, this, qbin]
theorem bin_shr (k k' : IntKind) (a c : Int) (h : 0 ≤ c ∧ c ≤ k.bits) : binV .shr (.i k a) (.i k' c) = some (.i k (Int.fdiv a (2 ^ c.toNat))) := by
  have : qshOk k c = true := by simp [qshOk, h]
  simp [binV, this, qbin]
theorem un_not (q : Bool) : unV .not (.b q) = some (.b (!q)) := by cases q <;> rfl
theorem un_neg (k : IntKind) (a : Int) : unV .neg (.i k a) = some (.i k (k.wrap (0 - a))) := by cases k <;> rfl
theorem cvt_i (k k' : IntKind) (n : Int) : cvtV k (.i k' n) = some (.i k (k.wrap n)) := rfl
theorem binB_eql (a c : Bool) : binBV .eql (.b a) (.b c) = some (.b (a == c)) := rfl
theorem binB_neq (a c : Bool) : binBV .neq (.b a) (.b c) = some (.b (!(a == c))) := rfl
theorem ext_0 (v : V) (vs : List V) : extV (.tup (v :: vs)) 0 = some v := rfl
theorem ext_1 (v w : V) (vs : List V) : extV (.tup (v :: w :: vs)) 1 = some w := rfl
theorem ext_2 (v w x : V) (vs : List V) : extV (.tup (v :: w :: x :: vs)) 2 = some x := rfl

/-! ### Slices, pointers, memory -/
theorem len_tl (w : Bool) (z : Nat) (es : List (List V)) : lenV false (.tl w z es) = some (.i .i64 (es.length : Int)) := rfl
theorem len_rw (r z n : Nat) : lenV false (.rw r z n) = some (.i .i64 (n : Int)) := rfl
theorem len_sl (r z n o l : Nat) : lenV false (.sl r z n o l) = some (.i .i64 (l : Int)) := rfl
theorem len_ns : lenV false .ns = some (.i .i64 0) := rfl
theorem len_zs : lenV false .zs = some (.i .i64 0) := rfl
theorem len_s (t : ByteArray) : lenV true (.s t) = some (.i .i64 (t.size : Int)) := rfl
theorem idx_tl {w : Bool} {z : Nat} {es : List (List V)} {k : IntKind} {j : Int} (h0 : 0 ≤ j) (h1 : j.toNat < es.length) : indexA z (.tl w z es) (.i k j) = some (.pe es[j.toNat]) := by
  have : qinn j (qlen es) = true := by unfold qinn qlen; simp; omega
  simp [indexA, this, qget, qtoN, List.getElem?_eq_getElem h1]
theorem idx_rw {r z n : Nat} {k : IntKind} {j : Int} (h0 : 0 ≤ j) (h1 : j < n) : indexA z (.rw r z n) (.i k j) = some (.p r z n j.toNat 0) := by
  have : qinn j n = true := by unfold qinn; simp; omega
  simp [indexA, this, qtoN]
theorem idx_sl {r z n o l : Nat} {k : IntKind} {j : Int} (h0 : 0 ≤ j) (h1 : j < l) : indexA z (.sl r z n o l) (.i k j) = some (.p r z n (o + j.toNat) 0) := by
  have : qinn j l = true := by unfold qinn; simp; omega
  simp [indexA, this, qtoN, qadd]
theorem fa_p (off r z n i o : Nat) : fieldA off (.p r z n i o) = some (.p r z n i (o + off)) := rfl
theorem fa_pe (off : Nat) (cs : List V) : fieldA off (.pe cs) = some (.pe (cs.drop off)) := rfl
theorem fv_agg (off z : Nat) (ag : Bool) (cs : List V) : fieldV off z ag (.agg cs) = (cut? cs off z).bind (wrapV ag) := rfl
theorem nilc_p (r z n i o : Nat) : nilcV (.p r z n i o) = some (.p r z n i o) := rfl
theorem nilc_pe (cs : List V) : nilcV (.pe cs) = some (.pe cs) := rfl
theorem cut_00 (cs : List V) : cut? cs 0 0 = some [] := by simp [cut?]
theorem cut_0s (c : V) (cs : List V) (n : Nat) : cut? (c :: cs) 0 (n + 1) = (cut? cs 0 n).map (c :: ·) := by
  unfold cut?
  by_cases h : 0 + n ≤ cs.length
  · rw [if_pos h, if_pos (by simp at h ⊢; omega)]; simp
  · rw [if_neg h, if_neg (by simp at h ⊢; omega)]; rfl
theorem cut_s (c : V) (cs : List V) (o n : Nat) : cut? (c :: cs) (o + 1) n = cut? cs o n := by
  unfold cut?
  by_cases h : o + n ≤ cs.length
  · rw [if_pos h, if_pos (by simp; omega)]; simp
  · rw [if_neg h, if_neg (by simp; omega)]
theorem wrap_t (cs : List V) : wrapV true cs = some (.agg cs) := rfl
theorem wrap_f (v : V) : wrapV false [v] = some v := rfl
theorem ld_pe (z : Nat) (ag : Bool) (cs : List V) (H : Heap) : loadV z ag (.pe cs) H = (cut? cs 0 z).bind (wrapV ag) := rfl
theorem ld_p (z : Nat) (ag : Bool) (r z' n i o : Nat) (H : Heap) : loadV z ag (.p r z' n i o) H = (row? H r).bind fun R => (elAt R z' n i).bind fun c => (cut? c o z).bind (wrapV ag) := rfl
theorem el_bx (e : TypeId) (z : Nat) (es : List (List V)) (i : Nat) : elAt ⟨e, z, true, es⟩ z 1 i = es[i]? := by simp [elAt]
theorem el_sl {e : TypeId} {z : Nat} {es : List (List V)} {n i : Nat} (h : n = es.length) : elAt ⟨e, z, false, es⟩ z n i = es[i]? := by simp [elAt, qsame, qlen, qget, h]
theorem row_0 (R : Row) (H : Heap) : row? (R :: H) 0 = some R := rfl
theorem row_s (R : Row) (H : Heap) (n : Nat) : row? (R :: H) (n + 1) = row? H n := rfl
theorem row_app (H L : Heap) : row? (H ++ L) H.length = row? L 0 := by
  unfold row?
  rw [List.getElem?_append_right (Nat.le_refl _), Nat.sub_self]
theorem row_app' (H L : Heap) (k : Nat) : row? (H ++ L) (H.length + k) = row? L k := by
  unfold row?
  rw [List.getElem?_append_right (Nat.le_add_right _ _), Nat.add_sub_cancel_left]
theorem row_old {H : Heap} {r : Nat} {R : Row} (L : Heap) (h : row? H r = some R) : row? (H ++ L) r = some R := by
  unfold row? at h ⊢
  rw [List.getElem?_append_left (List.getElem?_eq_some_iff.1 h).1]; exact h
theorem row_set {H : Heap} {r : Nat} {R0 : Row} (R : Row) (h : row? H r = some R0) : row? (H.set r R) r = some R := by
  unfold row? at h ⊢
  rw [List.getElem?_set_self (List.getElem?_eq_some_iff.1 h).1]
theorem row_set_ne {H : Heap} {r s : Nat} (R : Row) (h : r ≠ s) : row? (H.set r R) s = row? H s := by
  unfold row?
  rw [List.getElem?_set_ne h]
theorem set_set (H : Heap) (r : Nat) (R S : Row) : (H.set r R).set r S = H.set r S := by simp
theorem setEl_bx (H : Heap) (r : Nat) (e : TypeId) (z : Nat) (es : List (List V)) (i : Nat) (c : List V) : setEl H r ⟨e, z, true, es⟩ i c = H.set r ⟨e, z, true, es.set i c⟩ := rfl
theorem setEl_sl (H : Heap) (r : Nat) (e : TypeId) (z : Nat) (es : List (List V)) (i : Nat) (c : List V) : setEl H r ⟨e, z, false, es⟩ i c = H.set r ⟨e, z, false, es.set i c⟩ := rfl
/-- Cells put into others. -/
def putC (c : List V) (o : Nat) (v : List V) : List V := c.take o ++ (v ++ c.drop (o + v.length))
theorem putC_00 (c : List V) : putC c 0 [] = c := by simp [putC]
theorem putC_0s (x : V) (c : List V) (v : V) (vs : List V) : putC (x :: c) 0 (v :: vs) = v :: putC c 0 vs := by simp [putC]
theorem putC_s (x : V) (c : List V) (o : Nat) (v : List V) : putC (x :: c) (o + 1) v = x :: putC c o v := by simp [putC, Nat.add_right_comm]
theorem st_p {z : Nat} {v : V} {r z' n i o : Nat} {H : Heap} {R : Row} {c : List V} (hv : (cellsV v).length = z ∧ (cellsV v).all storable = true) (hr : row? H r = some R) (hc : elAt R z' n i = some c) (ho : o + z ≤ c.length) :
    storeV z (.p r z' n i o) v H = some (setEl H r R i (putC c o (cellsV v))) := by
  unfold storeV
  rw [if_pos hv]
  simp only [hr, Option.bind_some, hc, if_pos ho, putC, hv.1]
theorem st_eq (z : Nat) (v : V) (r z' n i o : Nat) (H : Heap) : storeV z (.p r z' n i o) v H = if (cellsV v).length = z ∧ (cellsV v).all storable = true then
    (row? H r).bind fun R => (elAt R z' n i).bind fun c => if o + z ≤ c.length then some (setEl H r R i (putC c o (cellsV v))) else none else none := by
  unfold storeV
  split
  · rename_i h
    simp only [putC, h.1]
  · rfl
theorem box_eq (T : TypeId) (v : V) (H : Heap) : boxV T v H = if 0 < (cellsV v).length ∧ (cellsV v).all storable = true then some (.p H.length (cellsV v).length 1 0 0, H ++ [⟨T, (cellsV v).length, true, [cellsV v]⟩]) else none := rfl
theorem alloc_eq (T : TypeId) (cs : List V) (H : Heap) : allocV T cs H = if 0 < cs.length ∧ cs.all storable = true then some (.p H.length cs.length 1 0 0, H ++ [⟨T, cs.length, true, [cs]⟩]) else none := rfl
theorem build_eq (zero : List V) (ps : List (Nat × Nat × V)) : dBuild zero ps = (fillCs ps zero).map .agg := rfl
theorem fill_eq (off z : Nat) (v : V) (rest : List (Nat × Nat × V)) (cs : List V) : fillCs ((off, z, v) :: rest) cs = if (cellsV v).length = z ∧ off + z ≤ cs.length ∧ okTop v = true then fillCs rest (putC cs off (cellsV v)) else none := by
  simp only [fillCs]
  split
  · rename_i h
    simp only [putC, h.1]
  · rfl
theorem lit_eq (z : Nat) (zero : List V) (len : Nat) (ps : List (Nat × V)) : litV z zero len ps = if zero.length = z ∧ 0 < z ∧ 0 < len ∧ len * z ≤ 16777216 ∧ zero.all storable = true then (fillEs z ps (List.replicate len zero)).map (.tl false z) else none := rfl
theorem fillE_nil (z : Nat) (es : List (List V)) : fillEs z [] es = some es := rfl
theorem fillE_eq (z i : Nat) (v : V) (rest : List (Nat × V)) (es : List (List V)) : fillEs z ((i, v) :: rest) es = if (cellsV v).length = z ∧ i < es.length ∧ (cellsV v).all storable = true then fillEs z rest (es.set i (cellsV v)) else none := rfl
theorem make_eq (e : TypeId) (z by_ : Nat) (zero : List V) (n : Int) (H : Heap) : makeSliceV e z by_ zero (.i .i64 n) (.i .i64 n) H = if zero.length = z ∧ 0 < z ∧ zero.all storable = true ∧ 0 ≤ n ∧ n ≤ 9223372036854775807 ∧ n.toNat * by_ ≤ 140737488355328 then
    some (.rw H.length z n.toNat, H ++ [⟨e, z, false, List.replicate n.toNat zero⟩]) else none := by
  by_cases h : zero.length = z ∧ 0 < z ∧ zero.all storable = true
  · by_cases h2 : 0 ≤ n ∧ n ≤ 9223372036854775807 ∧ n.toNat * by_ ≤ 140737488355328
    · have h3 : qmkOk n by_ = true := by simp only [qmkOk]; exact decide_eq_true h2
      rw [if_pos ⟨h.1, h.2.1, h.2.2, h2⟩]
      simp only [makeSliceV]
      rw [if_pos h, h3]
      simp [qtest, qlen, qrep, qtoN, newRowH]
    · have h3 : qmkOk n by_ = false := by simp only [qmkOk]; exact decide_eq_false h2
      rw [if_neg (fun h => h2 h.2.2.2)]
      simp only [makeSliceV]
      rw [if_pos h, h3]
  · rw [if_neg (fun h' => h ⟨h'.1, h'.2.1, h'.2.2.1⟩)]
    simp only [makeSliceV]
    rw [if_neg h]
theorem cells_i (k : IntKind) (n : Int) : cellsV (.i k n) = [.i k n] := rfl
theorem cells_b (q : Bool) : cellsV (.b q) = [.b q] := rfl
theorem cells_s (q : ByteArray) : cellsV (.s q) = [.s q] := rfl
theorem cells_agg (cs : List V) : cellsV (.agg cs) = cs := rfl
theorem cells_rw (r z n : Nat) : cellsV (.rw r z n) = [.rw r z n] := rfl
theorem cells_sl (r z n o l : Nat) : cellsV (.sl r z n o l) = [.sl r z n o l] := rfl
theorem cells_tl (w : Bool) (z : Nat) (es : List (List V)) : cellsV (.tl w z es) = [.tl w z es] := rfl
theorem cells_ns : cellsV .ns = [.ns] := rfl
theorem cells_zs : cellsV .zs = [.zs] := rfl
theorem cells_p (r z n i o : Nat) : cellsV (.p r z n i o) = [.p r z n i o] := rfl
theorem sto_i (k : IntKind) (n : Int) : storable (.i k n) = true := rfl
theorem sto_b (q : Bool) : storable (.b q) = true := rfl
theorem sto_s (q : ByteArray) : storable (.s q) = true := rfl
theorem sto_rw (r z n : Nat) : storable (.rw r z n) = true := rfl
theorem sto_sl (r z n o l : Nat) : storable (.sl r z n o l) = true := rfl
theorem sto_tl (w : Bool) (z : Nat) (es : List (List V)) : storable (.tl w z es) = true := rfl
theorem sto_ns : storable .ns = true := rfl
theorem sto_zs : storable .zs = true := rfl
theorem sto_p (r z n i o : Nat) : storable (.p r z n i o) = true := rfl
theorem box_ok {T : TypeId} {v : V} {H : Heap} (h : 0 < (cellsV v).length ∧ (cellsV v).all storable = true) : boxV T v H = some (.p H.length (cellsV v).length 1 0 0, H ++ [⟨T, (cellsV v).length, true, [cellsV v]⟩]) := by
  unfold boxV
  rw [if_pos h]
  rfl
theorem alloc_ok {T : TypeId} {cs : List V} {H : Heap} (h : 0 < cs.length ∧ cs.all storable = true) : allocV T cs H = some (.p H.length cs.length 1 0 0, H ++ [⟨T, cs.length, true, [cs]⟩]) := by
  unfold allocV
  rw [if_pos h]
  rfl
theorem fill_nil (cs : List V) : fillCs [] cs = some cs := rfl
theorem fill_cons {off z : Nat} {v : V} {rest : List (Nat × Nat × V)} {cs : List V} (h : (cellsV v).length = z ∧ off + z ≤ cs.length ∧ okTop v = true) : fillCs ((off, z, v) :: rest) cs = fillCs rest (putC cs off (cellsV v)) := by
  simp only [fillCs]
  rw [if_pos h, putC, h.1]
theorem okTop_i (k : IntKind) (n : Int) : okTop (.i k n) = true := rfl
theorem okTop_b (q : Bool) : okTop (.b q) = true := rfl
theorem okTop_s (q : ByteArray) : okTop (.s q) = true := rfl
theorem okTop_agg (cs : List V) : okTop (.agg cs) = true := rfl
theorem okTop_rw (r z n : Nat) : okTop (.rw r z n) = true := rfl
theorem okTop_sl (r z n o l : Nat) : okTop (.sl r z n o l) = true := rfl
theorem okTop_tl (w : Bool) (z : Nat) (es : List (List V)) : okTop (.tl w z es) = true := rfl
theorem okTop_ns : okTop .ns = true := rfl
theorem okTop_zs : okTop .zs = true := rfl
theorem okTop_p (r z n i o : Nat) : okTop (.p r z n i o) = true := rfl

/-- All equations that ask for nothing: control, numbers. -/
theorem am : ((∀ (v : V) (K : V → Prop), dOpt (some v) K = K v) ∧ (∀ (K : V → Prop), dOpt none K = False) ∧ (∀ (v : V) (H : Heap) (K : V → Heap → Prop), dOpt2 (some (v, H)) K = K v H) ∧ (∀ (K : V → Heap → Prop), dOpt2 none K = False) ∧
  (∀ (H : Heap) (K : Heap → Prop), dOptH (some H) K = K H) ∧ (∀ (K : Heap → Prop), dOptH none K = False) ∧
  (∀ (q : Bool) (r s : (List V → Heap → Prop) → Prop) (K : List V → Heap → Prop), dGrp (.b q) true r s K = if q = true then r K else s K) ∧
  (∀ (q : Bool) (r s : (List V → Heap → Prop) → Prop) (K : List V → Heap → Prop), dGrp (.b q) false r s K = if q = true then s K else r K) ∧
  (∀ (w : Bool) (r s : (List V → Heap → Prop) → Prop) (K : List V → Heap → Prop), dGrp .un w r s K = s K) ∧
  (∀ (q : Bool) (a d : (List V → Heap → Prop) → Prop) (K : List V → Heap → Prop), dIf (.b q) a d K = if q = true then a K else d K) ∧
  (∀ (a : (List V → Heap → Prop) → Prop) (K : List V → Heap → Prop), dBlk a K = a K) ∧
  (∀ (a : V) (l : List V) (d : V), (a :: l).headD d = a) ∧ (∀ (a : V) (l : List V), (a :: l).tail = l)) :=
  ⟨dOpt_some, dOpt_none, dOpt2_some, dOpt2_none, dOptH_some, dOptH_none, dGrp_t, dGrp_f, dGrp_un, dIf_b, dBlk_eq, hd_cons, tl_cons⟩
theorem amV : ((∀ (x y : V), pickV (.b true) x y = some x) ∧ (∀ (x y : V), pickV (.b false) x y = some y) ∧ (∀ (q u v : Bool), pickV (.b q) (.b u) (.b v) = some (.b (bif q then u else v))) ∧
  (∀ (k : IntKind) (a c : Int), binV .lss (.i k a) (.i k c) = some (.b (decide (a < c)))) ∧ (∀ (k : IntKind) (a c : Int), binV .leq (.i k a) (.i k c) = some (.b (decide (a ≤ c)))) ∧
  (∀ (k : IntKind) (a c : Int), binV .gtr (.i k a) (.i k c) = some (.b (decide (a > c)))) ∧ (∀ (k : IntKind) (a c : Int), binV .geq (.i k a) (.i k c) = some (.b (decide (a ≥ c)))) ∧
  (∀ (k : IntKind) (a c : Int), binV .eql (.i k a) (.i k c) = some (.b (decide (a = c)))) ∧ (∀ (k : IntKind) (a c : Int), binV .neq (.i k a) (.i k c) = some (.b (!decide (a = c)))) ∧
  (∀ (k : IntKind) (a c : Int), binV .add (.i k a) (.i k c) = some (.i k (k.wrap (a + c)))) ∧ (∀ (k : IntKind) (a c : Int), binV .sub (.i k a) (.i k c) = some (.i k (k.wrap (a - c)))) ∧
  (∀ (k : IntKind) (a c : Int), binV .mul (.i k a) (.i k c) = some (.i k (k.wrap (a * c)))) ∧ (∀ (k : IntKind) (a c : Int), binV .and (.i k a) (.i k c) = some (.i k (Go.bits .and k a c))) ∧
  (∀ (k : IntKind) (a c : Int), binV .or (.i k a) (.i k c) = some (.i k (Go.bits .or k a c))) ∧ (∀ (k : IntKind) (a c : Int), binV .xor (.i k a) (.i k c) = some (.i k (Go.bits .xor k a c))) ∧
  (∀ (q : Bool), unV .not (.b q) = some (.b (!q))) ∧ (∀ (k : IntKind) (a : Int), unV .neg (.i k a) = some (.i k (k.wrap (0 - a)))) ∧ (∀ (k k' : IntKind) (n : Int), cvtV k (.i k' n) = some (.i k (k.wrap n))) ∧
  (∀ (a c : Bool), binBV .eql (.b a) (.b c) = some (.b (a == c))) ∧ (∀ (a c : Bool), binBV .neq (.b a) (.b c) = some (.b (!(a == c)))) ∧
  (∀ (v : V) (vs : List V), extV (.tup (v :: vs)) 0 = some v) ∧ (∀ (v w : V) (vs : List V), extV (.tup (v :: w :: vs)) 1 = some w) ∧ (∀ (v w x : V) (vs : List V), extV (.tup (v :: w :: x :: vs)) 2 = some x)) :=
  ⟨pick_t, pick_f, pick_b, bin_lss, bin_leq, bin_gtr, bin_geq, bin_eql, bin_neq, bin_add, bin_sub, bin_mul, bin_and, bin_or, bin_xor, un_not, un_neg, cvt_i, binB_eql, binB_neq, ext_0, ext_1, ext_2⟩
/-- Slices and memory. -/
theorem amM : ((∀ (w : Bool) (z : Nat) (es : List (List V)), lenV false (.tl w z es) = some (.i .i64 (es.length : Int))) ∧ (∀ (r z n : Nat), lenV false (.rw r z n) = some (.i .i64 (n : Int))) ∧
  (∀ (r z n o l : Nat), lenV false (.sl r z n o l) = some (.i .i64 (l : Int))) ∧ (lenV false .ns = some (.i .i64 0)) ∧ (lenV false .zs = some (.i .i64 0)) ∧ (∀ (t : ByteArray), lenV true (.s t) = some (.i .i64 (t.size : Int))) ∧
  (∀ (off r z n i o : Nat), fieldA off (.p r z n i o) = some (.p r z n i (o + off))) ∧ (∀ (off : Nat) (cs : List V), fieldA off (.pe cs) = some (.pe (cs.drop off))) ∧ (∀ (off z : Nat) (ag : Bool) (cs : List V), fieldV off z ag (.agg cs) = (cut? cs off z).bind (wrapV ag)) ∧
  (∀ (r z n i o : Nat), nilcV (.p r z n i o) = some (.p r z n i o)) ∧ (∀ (cs : List V), nilcV (.pe cs) = some (.pe cs)) ∧
  (∀ (cs : List V), cut? cs 0 0 = some []) ∧ (∀ (c : V) (cs : List V) (n : Nat), cut? (c :: cs) 0 (n + 1) = (cut? cs 0 n).map (c :: ·)) ∧ (∀ (c : V) (cs : List V) (o n : Nat), cut? (c :: cs) (o + 1) n = cut? cs o n) ∧
  (∀ (cs : List V), wrapV true cs = some (.agg cs)) ∧ (∀ (v : V), wrapV false [v] = some v) ∧
  (∀ (z : Nat) (ag : Bool) (cs : List V) (H : Heap), loadV z ag (.pe cs) H = (cut? cs 0 z).bind (wrapV ag)) ∧
  (∀ (z : Nat) (ag : Bool) (r z' n i o : Nat) (H : Heap), loadV z ag (.p r z' n i o) H = (row? H r).bind fun R => (elAt R z' n i).bind fun c => (cut? c o z).bind (wrapV ag)) ∧
  (∀ (e : TypeId) (z : Nat) (es : List (List V)) (i : Nat), elAt ⟨e, z, true, es⟩ z 1 i = es[i]?) ∧ (∀ (R : Row) (H : Heap), row? (R :: H) 0 = some R) ∧ (∀ (R : Row) (H : Heap) (n : Nat), row? (R :: H) (n + 1) = row? H n) ∧
  (∀ (H : Heap) (r : Nat) (R S : Row), (H.set r R).set r S = H.set r S) ∧
  (∀ (H : Heap) (r : Nat) (e : TypeId) (z : Nat) (es : List (List V)) (i : Nat) (c : List V), setEl H r ⟨e, z, true, es⟩ i c = H.set r ⟨e, z, true, es.set i c⟩) ∧ (∀ (H : Heap) (r : Nat) (e : TypeId) (z : Nat) (es : List (List V)) (i : Nat) (c : List V), setEl H r ⟨e, z, false, es⟩ i c = H.set r ⟨e, z, false, es.set i c⟩) ∧
  (∀ (c : List V), putC c 0 [] = c) ∧ (∀ (x : V) (c : List V) (v : V) (vs : List V), putC (x :: c) 0 (v :: vs) = v :: putC c 0 vs) ∧ (∀ (x : V) (c : List V) (o : Nat) (v : List V), putC (x :: c) (o + 1) v = x :: putC c o v) ∧
  (∀ (cs : List V), fillCs [] cs = some cs)) :=
  ⟨len_tl, len_rw, len_sl, len_ns, len_zs, len_s, fa_p, fa_pe, fv_agg, nilc_p, nilc_pe, cut_00, cut_0s, cut_s, wrap_t, wrap_f, ld_pe, ld_p, el_bx, row_0, row_s, set_set, setEl_bx, setEl_sl, putC_00, putC_0s, putC_s, fill_nil⟩
theorem amH : ((∀ (z : Nat) (v : V) (r z' n i o : Nat) (H : Heap), storeV z (.p r z' n i o) v H = if (cellsV v).length = z ∧ (cellsV v).all storable = true then
    (row? H r).bind fun R => (elAt R z' n i).bind fun c => if o + z ≤ c.length then some (setEl H r R i (putC c o (cellsV v))) else none else none) ∧
  (∀ (T : TypeId) (v : V) (H : Heap), boxV T v H = if 0 < (cellsV v).length ∧ (cellsV v).all storable = true then some (.p H.length (cellsV v).length 1 0 0, H ++ [⟨T, (cellsV v).length, true, [cellsV v]⟩]) else none) ∧
  (∀ (T : TypeId) (cs : List V) (H : Heap), allocV T cs H = if 0 < cs.length ∧ cs.all storable = true then some (.p H.length cs.length 1 0 0, H ++ [⟨T, cs.length, true, [cs]⟩]) else none) ∧
  (∀ (zero : List V) (ps : List (Nat × Nat × V)), dBuild zero ps = (fillCs ps zero).map .agg) ∧
  (∀ (off z : Nat) (v : V) (rest : List (Nat × Nat × V)) (cs : List V), fillCs ((off, z, v) :: rest) cs = if (cellsV v).length = z ∧ off + z ≤ cs.length ∧ okTop v = true then fillCs rest (putC cs off (cellsV v)) else none) ∧
  (∀ (z : Nat) (zero : List V) (len : Nat) (ps : List (Nat × V)), litV z zero len ps = if zero.length = z ∧ 0 < z ∧ 0 < len ∧ len * z ≤ 16777216 ∧ zero.all storable = true then (fillEs z ps (List.replicate len zero)).map (.tl false z) else none) ∧
  (∀ (z : Nat) (es : List (List V)), fillEs z [] es = some es) ∧
  (∀ (z i : Nat) (v : V) (rest : List (Nat × V)) (es : List (List V)), fillEs z ((i, v) :: rest) es = if (cellsV v).length = z ∧ i < es.length ∧ (cellsV v).all storable = true then fillEs z rest (es.set i (cellsV v)) else none)) :=
  ⟨st_eq, box_eq, alloc_eq, build_eq, fill_eq, lit_eq, fillE_nil, fillE_eq⟩
/-- Plain lists. -/
theorem amL : ((∀ (α : Type) (a : α) (l : List α), (a :: l).length = l.length + 1) ∧ (∀ (α : Type), ([] : List α).length = 0) ∧ (∀ (α : Type) (p : α → Bool) (a : α) (l : List α), (a :: l).all p = (p a && l.all p)) ∧ (∀ (α : Type) (p : α → Bool), ([] : List α).all p = true) ∧
  (∀ (b : Bool), (b && true) = b) ∧ (∀ (b : Bool), (true && b) = b) ∧ (∀ (α : Type) (a : α) (l : List α), (a :: l)[0]? = some a) ∧ (∀ (α : Type) (a : α) (l : List α) (i : Nat), (a :: l)[i + 1]? = l[i]?) ∧
  (∀ (α : Type) (a b : α) (l : List α), (a :: l).set 0 b = b :: l) ∧ (∀ (α : Type) (a b : α) (l : List α) (i : Nat), (a :: l).set (i + 1) b = a :: l.set i b) ∧
  (∀ (α β : Type) (a : α) (f : α → Option β), (some a).bind f = f a) ∧ (∀ (α β : Type) (f : α → Option β), (none : Option α).bind f = none) ∧ (∀ (α β : Type) (a : α) (f : α → β), (some a).map f = some (f a)) ∧ (∀ (α β : Type) (f : α → β), (none : Option α).map f = none) ∧
  (∀ (α : Type) (l : List α), l.drop 0 = l) ∧ (∀ (α : Type) (a : α) (l : List α) (i : Nat), (a :: l).drop (i + 1) = l.drop i) ∧ (∀ (n : Nat), 0 + n = n) ∧ (∀ (n : Nat), n + 0 = n) ∧
  (∀ (α : Type) (l : List α), l ++ [] = l) ∧ (∀ (α : Type) (l : List α), [] ++ l = l) ∧ (∀ (α : Type) (a : α) (l m : List α), (a :: l) ++ m = a :: (l ++ m)) ∧ (∀ (α : Type) (l m k : List α), (l ++ m) ++ k = l ++ (m ++ k)) ∧
  (∀ (n : Nat), (0 < n + 1) = True) ∧ (∀ (α : Type) (a : α), List.replicate 0 a = []) ∧ (∀ (α : Type) (n : Nat) (a : α), List.replicate (n + 1) a = a :: List.replicate n a)) :=
  ⟨fun _ _ _ => rfl, fun _ => rfl, fun _ _ _ _ => rfl, fun _ _ => rfl, fun b => Bool.and_true b, fun b => Bool.true_and b, fun _ _ _ => rfl, fun _ _ _ _ => rfl, fun _ _ _ _ => rfl, fun _ _ _ _ _ => rfl, fun _ _ _ _ => rfl, fun _ _ _ => rfl, fun _ _ _ _ => rfl, fun _ _ _ => rfl,
   fun _ _ => rfl, fun _ _ _ _ => rfl, fun n => Nat.zero_add n, fun n => Nat.add_zero n, fun _ l => List.append_nil l, fun _ _ => rfl, fun _ _ _ _ => rfl, fun _ l m k => List.append_assoc l m k, fun n => eq_true (Nat.zero_lt_succ n), fun _ _ => rfl, fun _ _ _ => rfl⟩
theorem amC : ((∀ (k : IntKind) (n : Int), cellsV (.i k n) = [.i k n]) ∧ (∀ (q : Bool), cellsV (.b q) = [.b q]) ∧ (∀ (q : ByteArray), cellsV (.s q) = [.s q]) ∧ (∀ (cs : List V), cellsV (.agg cs) = cs) ∧ (∀ (r z n : Nat), cellsV (.rw r z n) = [.rw r z n]) ∧
  (∀ (r z n o l : Nat), cellsV (.sl r z n o l) = [.sl r z n o l]) ∧ (∀ (w : Bool) (z : Nat) (es : List (List V)), cellsV (.tl w z es) = [.tl w z es]) ∧ (cellsV .ns = [.ns]) ∧ (cellsV .zs = [.zs]) ∧ (∀ (r z n i o : Nat), cellsV (.p r z n i o) = [.p r z n i o]) ∧
  (∀ (k : IntKind) (n : Int), storable (.i k n) = true) ∧ (∀ (q : Bool), storable (.b q) = true) ∧ (∀ (q : ByteArray), storable (.s q) = true) ∧ (∀ (r z n : Nat), storable (.rw r z n) = true) ∧ (∀ (r z n o l : Nat), storable (.sl r z n o l) = true) ∧
  (∀ (w : Bool) (z : Nat) (es : List (List V)), storable (.tl w z es) = true) ∧ (storable .ns = true) ∧ (storable .zs = true) ∧ (∀ (r z n i o : Nat), storable (.p r z n i o) = true) ∧
  (∀ (k : IntKind) (n : Int), okTop (.i k n) = true) ∧ (∀ (q : Bool), okTop (.b q) = true) ∧ (∀ (q : ByteArray), okTop (.s q) = true) ∧ (∀ (cs : List V), okTop (.agg cs) = true) ∧ (∀ (r z n : Nat), okTop (.rw r z n) = true) ∧
  (∀ (r z n o l : Nat), okTop (.sl r z n o l) = true) ∧ (∀ (w : Bool) (z : Nat) (es : List (List V)), okTop (.tl w z es) = true) ∧ (okTop .ns = true) ∧ (okTop .zs = true) ∧ (∀ (r z n i o : Nat), okTop (.p r z n i o) = true)) :=
  ⟨cells_i, cells_b, cells_s, cells_agg, cells_rw, cells_sl, cells_tl, cells_ns, cells_zs, cells_p, sto_i, sto_b, sto_s, sto_rw, sto_sl, sto_tl, sto_ns, sto_zs, sto_p, okTop_i, okTop_b, okTop_s, okTop_agg, okTop_rw, okTop_sl, okTop_tl, okTop_ns, okTop_zs, okTop_p⟩

section
variable {F : Nat → Option RFD} {sig : Nat → Option SigD} {orc : Nat → Option Call1} {k f : Nat}
theorem call_heap (ho : orc f = none) (hs : sig f = none) (args : List V) (H : Heap) (K : V → Heap → Prop) : callD F sig orc (k + 1) f args H K = bodyO (callD F sig orc k) k (F f) args H K := by
  simp only [callD, ho, hs, bodyO]
  cases F f <;> rfl
theorem call_seal {sg : SigD} (ho : orc f = none) (hs : sig f = some sg) {args as : List V} {H : Heap} (h : sealCs sg.lend sg.lend sg.lend H sg.args args = some as) (K : V → Heap → Prop) :
    callD F sig orc (k + 1) f args H K = bodyO (callD F sig orc k) k (F f) as [] (backD sg H K) := by
  simp only [callD, ho, hs, bodyO, h]
  cases F f <;> rfl
end

/-! ### Seals -/
theorem allM_map {α : Type} {f g : α → List V} {s : List V → Option (List V)} (l : List α) (h : ∀ a ∈ l, s (f a) = some (g a)) : allM s (l.map f) = some (l.map g) := by
  induction l with
  | nil => rfl
  | cons a l ih =>
    simp only [List.map_cons, allM, h a (by simp), Option.bind_some]
    rw [ih fun b hb => h b (by simp [hb])]
    rfl
theorem seal_i (w o l : Bool) (H : Heap) (k : IntKind) (n : Int) : sealV w o l H .at_ (.i k n) = some (.i k n) := rfl
theorem seal_b (w o l : Bool) (H : Heap) (q : Bool) : sealV w o l H .at_ (.b q) = some (.b q) := rfl
theorem seal_s (w o l : Bool) (H : Heap) (q : ByteArray) : sealV w o l H .at_ (.s q) = some (.s q) := rfl
theorem seal_li (w o l : Bool) (H : Heap) (cs : List Sh) (v : V) : sealV w o l H (.li cs) v = (elemsIn o l H cs.length v).bind fun es => (allM (sealCs w o l H cs) es).map (.tl w cs.length) := by rw [sealV]
theorem seal_ag (w o l : Bool) (H : Heap) (cs : List Sh) (c : List V) : sealV w o l H (.ag cs) (.agg c) = (sealCs w o l H cs c).map .agg := by rw [sealV]
theorem seal_tu (w o l : Bool) (H : Heap) (cs : List Sh) (c : List V) : sealV w o l H (.tu cs) (.tup c) = (sealCs w o l H cs c).map .tup := by rw [sealV]
theorem sealCs_nil (w o l : Bool) (H : Heap) : sealCs w o l H [] [] = some [] := by rw [sealCs]
theorem sealCs_cons (w o l : Bool) (H : Heap) (s : Sh) (ss : List Sh) (v : V) (vs : List V) : sealCs w o l H (s :: ss) (v :: vs) = (sealV w o l H s v).bind fun v' => (sealCs w o l H ss vs).map (v' :: ·) := by rw [sealCs]
theorem in_ns (o l : Bool) (H : Heap) (z : Nat) : elemsIn o l H z .ns = some [] := rfl
theorem in_zs (o l : Bool) (H : Heap) (z : Nat) : elemsIn o l H z .zs = some [] := rfl
theorem in_tlf (o l : Bool) (H : Heap) (z : Nat) (es : List (List V)) : elemsIn o l H z (.tl false z es) = some es := by simp [elemsIn, elems]
theorem in_tll (o : Bool) (w : Bool) (H : Heap) (z : Nat) (es : List (List V)) : elemsIn o true H z (.tl w z es) = some es := by cases w <;> simp [elemsIn, elems]
theorem in_rw {l : Bool} {H : Heap} {z r n : Nat} {e : TypeId} {es : List (List V)} (h : row? H r = some ⟨e, z, false, es⟩) (hn : n = es.length) : elemsIn true l H z (.rw r z n) = some es := by simp [elemsIn, elems, h, qsame, qlen, hn]
theorem in_sl {l : Bool} {H : Heap} {z r n o ln : Nat} {e : TypeId} {es : List (List V)} (h : row? H r = some ⟨e, z, false, es⟩) (hn : n = es.length) : elemsIn true l H z (.sl r z n o ln) = some ((es.drop o).take ln) := by simp [elemsIn, elems, h, qsame, qlen, hn, qpart]
theorem amS : ((∀ (w o l : Bool) (H : Heap) (k : IntKind) (n : Int), sealV w o l H .at_ (.i k n) = some (.i k n)) ∧ (∀ (w o l : Bool) (H : Heap) (q : Bool), sealV w o l H .at_ (.b q) = some (.b q)) ∧ (∀ (w o l : Bool) (H : Heap) (q : ByteArray), sealV w o l H .at_ (.s q) = some (.s q)) ∧
  (∀ (w o l : Bool) (H : Heap) (cs : List Sh) (v : V), sealV w o l H (.li cs) v = (elemsIn o l H cs.length v).bind fun es => (allM (sealCs w o l H cs) es).map (.tl w cs.length)) ∧ (∀ (w o l : Bool) (H : Heap) (cs : List Sh) (c : List V), sealV w o l H (.ag cs) (.agg c) = (sealCs w o l H cs c).map .agg) ∧
  (∀ (w o l : Bool) (H : Heap) (cs : List Sh) (c : List V), sealV w o l H (.tu cs) (.tup c) = (sealCs w o l H cs c).map .tup) ∧ (∀ (w o l : Bool) (H : Heap), sealCs w o l H [] [] = some []) ∧
  (∀ (w o l : Bool) (H : Heap) (s : Sh) (ss : List Sh) (v : V) (vs : List V), sealCs w o l H (s :: ss) (v :: vs) = (sealV w o l H s v).bind fun v' => (sealCs w o l H ss vs).map (v' :: ·)) ∧
  (∀ (o l : Bool) (H : Heap) (z : Nat), elemsIn o l H z .ns = some []) ∧ (∀ (o l : Bool) (H : Heap) (z : Nat), elemsIn o l H z .zs = some []) ∧ (∀ (o l : Bool) (H : Heap) (z : Nat) (es : List (List V)), elemsIn o l H z (.tl false z es) = some es) ∧
  (∀ (o : Bool) (w : Bool) (H : Heap) (z : Nat) (es : List (List V)), elemsIn o true H z (.tl w z es) = some es)) :=
  ⟨seal_i, seal_b, seal_s, seal_li, seal_ag, seal_tu, sealCs_nil, sealCs_cons, in_ns, in_zs, in_tlf, in_tll⟩
/-- A sealed result. -/
theorem back_seal {sg : SigD} (ho : sg.own = false) {H H' : Heap} {K : V → Heap → Prop} {v v' : V} (h : sealV false true false H' sg.res v = some v') : backD sg H K v H' = K v' H := by simp only [backD, ho, h]
theorem back_own {sg : SigD} (ho : sg.own = true) {H H' : Heap} {K : V → Heap → Prop} {v v' : V} {acc : List (Nat × Row)} (h : ownV H' H.length sg.res v [] = some (v', acc)) : backD sg H K v H' = K v' (H ++ acc.map (·.2)) := by simp only [backD, ho, h]
theorem own_i (H : Heap) (b : Nat) (k : IntKind) (n : Int) (acc : List (Nat × Row)) : ownV H b .at_ (.i k n) acc = some (.i k n, acc) := rfl
theorem own_b (H : Heap) (b : Nat) (q : Bool) (acc : List (Nat × Row)) : ownV H b .at_ (.b q) acc = some (.b q, acc) := rfl
theorem own_s (H : Heap) (b : Nat) (q : ByteArray) (acc : List (Nat × Row)) : ownV H b .at_ (.s q) acc = some (.s q, acc) := rfl
theorem own_ns (H : Heap) (b : Nat) (cs : List Sh) (acc : List (Nat × Row)) : ownV H b (.li cs) .ns acc = some (.ns, acc) := by rw [ownV]
theorem own_zs (H : Heap) (b : Nat) (cs : List Sh) (acc : List (Nat × Row)) : ownV H b (.li cs) .zs acc = some (.zs, acc) := by rw [ownV]
theorem own_rw {H : Heap} {b r n : Nat} {cs : List Sh} {acc acc' acc'' : List (Nat × Row)} {e : TypeId} {es es' : List (List V)} {i : Nat} (hr : row? H r = some ⟨e, cs.length, false, es⟩) (hn : n = es.length) (hs : allS (ownCs H b cs) es acc = some (es', acc')) (ho : newOwn b r ⟨e, cs.length, false, es⟩ es' acc' = some (i, acc'')) :
    ownV H b (.li cs) (.rw r cs.length n) acc = some (.rw i cs.length n, acc'') := by
  rw [ownV]
  have hq : qsame n (qlen es) = true := by simp [qsame, qlen, hn]
  simp [hr, hq, hs, ho]
theorem own_tu {H : Heap} {b : Nat} {cs : List Sh} {c c' : List V} {acc acc' : List (Nat × Row)} (h : ownCs H b cs c acc = some (c', acc')) : ownV H b (.tu cs) (.tup c) acc = some (.tup c', acc') := by
  rw [ownV]
  simp only [h]
theorem own_ag {H : Heap} {b : Nat} {cs : List Sh} {c c' : List V} {acc acc' : List (Nat × Row)} (h : ownCs H b cs c acc = some (c', acc')) : ownV H b (.ag cs) (.agg c) acc = some (.agg c', acc') := by
  rw [ownV]
  simp only [h]
theorem ownCs_nil (H : Heap) (b : Nat) (acc : List (Nat × Row)) : ownCs H b [] [] acc = some ([], acc) := by rw [ownCs]
theorem ownCs_cons {H : Heap} {b : Nat} {s : Sh} {ss : List Sh} {v v' : V} {vs vs' : List V} {acc acc' acc'' : List (Nat × Row)} (h1 : ownV H b s v acc = some (v', acc')) (h2 : ownCs H b ss vs acc' = some (vs', acc'')) : ownCs H b (s :: ss) (v :: vs) acc = some (v' :: vs', acc'') := by
  rw [ownCs]
  simp only [h1, h2]
/-- Elements that are plain are taken over as they are. -/
theorem allS_plain {H : Heap} {b : Nat} {cs : List Sh} (es : List (List V)) (acc : List (Nat × Row)) (h : ∀ c ∈ es, ∀ acc, ownCs H b cs c acc = some (c, acc)) : allS (ownCs H b cs) es acc = some (es, acc) := by
  induction es with
  | nil => rfl
  | cons c es ih =>
    simp only [allS, h c (by simp)]
    rw [ih fun c' hc => h c' (by simp [hc])]
theorem newOwn_nil (b r : Nat) (R : Row) (es : List (List V)) : newOwn b r R es [] = some (b, [(r, { R with es := es })]) := rfl
theorem w64 {n : Int} (h0 : -9223372036854775808 ≤ n) (h1 : n ≤ 9223372036854775807) : IntKind.i64.wrap n = n := by rw [IntKind.wrap_i64]; omega
theorem w64_bd (n : Int) : -9223372036854775808 ≤ IntKind.i64.wrap n ∧ IntKind.i64.wrap n ≤ 9223372036854775807 := by rw [IntKind.wrap_i64]; omega
theorem w64_succ {n : Nat} (h : n < 9223372036854775807) : IntKind.i64.wrap ((n : Int) + 1) = ((n + 1 : Nat) : Int) := by rw [w64 (by omega) (by omega)]; omega
theorem wu8 {n : Int} (h0 : 0 ≤ n) (h1 : n ≤ 255) : IntKind.u8.wrap n = n := by simp [IntKind.wrap, IntKind.bits, IntKind.signed]; omega
theorem wu8_bd (n : Int) : 0 ≤ IntKind.u8.wrap n ∧ IntKind.u8.wrap n ≤ 255 := by simp [IntKind.wrap, IntKind.bits, IntKind.signed]; omega
end Go.Am

/- Slices that grow. -/
namespace Go.Am
theorem el_tl (H : Heap) (z : Nat) (w : Bool) (es : List (List V)) : elems H z (.tl w z es) = some es := by simp [elems]
theorem el_ns (H : Heap) (z : Nat) : elems H z .ns = some [] := rfl
theorem el_zs (H : Heap) (z : Nat) : elems H z .zs = some [] := rfl
theorem el_rw {H : Heap} {z r n : Nat} {e : TypeId} {es : List (List V)} (h : row? H r = some ⟨e, z, false, es⟩) (hn : n = es.length) : elems H z (.rw r z n) = some es := by simp [elems, h, qsame, qlen, hn]

def Room (n by_ : Nat) : Prop := n ≤ 9223372036854775807 ∧ n * by_ ≤ 140737488355328
theorem room_q {n by_ : Nat} (h : Room n by_) : qroom n by_ = true := by unfold qroom; exact decide_eq_true h

theorem app_nil {T z by_ : Nat} {s x : V} {H : Heap} (hz : 0 < z) (hx : elems H z x = some []) (hs : s = .ns ∨ s = .zs ∨ (∃ r n, s = .rw r z n)) : appV T z by_ s x H = some (s, H) := by
  have hq : qnil [] = true := rfl
  unfold appV
  rw [hx, Option.bind_some]
  unfold appendV
  rw [if_pos hz]
  simp only [hq]
  rcases hs with rfl | rfl | ⟨r, n, rfl⟩ <;> rfl
theorem app_new {T z by_ : Nat} {s x : V} {H : Heap} {xs : List (List V)} (hz : 0 < z) (hx : elems H z x = some xs) (hne : xs ≠ []) (hs : s = .ns ∨ s = .zs) (hr : Room xs.length by_) :
    appV T z by_ s x H = some (.rw H.length z xs.length, H ++ [⟨T, z, false, xs⟩]) := by
  have hq : qnil xs = false := by cases xs with | nil => exact absurd rfl hne | cons _ _ => rfl
  have hq2 : qroom (qlen xs) by_ = true := room_q hr
  unfold appV
  rw [hx, Option.bind_some]
  unfold appendV
  rw [if_pos hz]
  simp only [hq]
  rcases hs with rfl | rfl <;> simp only [hq2] <;> rfl
theorem app_rw {T z by_ r n : Nat} {x : V} {H : Heap} {es xs : List (List V)} (hz : 0 < z) (hr : row? H r = some ⟨T, z, false, es⟩) (hn : n = es.length) (hx : elems H z x = some xs) (hne : xs ≠ []) (hm : Room (es.length + xs.length) by_) :
    appV T z by_ (.rw r z n) x H = some (.rw r z (es ++ xs).length, H.set r ⟨T, z, false, es ++ xs⟩) := by
  have hq : qnil xs = false := by cases xs with | nil => exact absurd rfl hne | cons _ _ => rfl
  have hq2 : qroom (qadd (qlen es) (qlen xs)) by_ = true := room_q hm
  have hq3 : qsame n (qlen es) = true := by simp [qsame, qlen, hn]
  unfold appV
  rw [hx, Option.bind_some]
  unfold appendV
  rw [if_pos hz]
  simp only [hq, hr, Option.bind_some, and_self, if_true, hq3, hq2]
  rfl

/-- A slice that began as v0 and lies, once something is in it, in the row behind H. -/
def gV (v0 : V) (b z : Nat) (es : List (List V)) : V := match es with | [] => v0 | _ :: _ => .rw b z es.length
def gH (H : Heap) (T z : Nat) (es : List (List V)) : Heap := match es with | [] => H | _ :: _ => H ++ [⟨T, z, false, es⟩]
theorem gV_nil (v0 : V) (b z : Nat) : gV v0 b z [] = v0 := rfl
theorem gH_nil (H : Heap) (T z : Nat) : gH H T z [] = H := rfl
theorem gV_ne {v0 : V} {b z : Nat} {es : List (List V)} (h : es ≠ []) : gV v0 b z es = .rw b z es.length := by cases es with | nil => exact absurd rfl h | cons _ _ => rfl
theorem gH_ne {H : Heap} {T z : Nat} {es : List (List V)} (h : es ≠ []) : gH H T z es = H ++ [⟨T, z, false, es⟩] := by cases es with | nil => exact absurd rfl h | cons _ _ => rfl
theorem app_g {T z by_ b : Nat} {v0 x : V} {H : Heap} {es xs : List (List V)} (hbl : b = H.length) (h0 : v0 = .ns ∨ v0 = .zs) (hz : 0 < z) (hx : elems (gH H T z es) z x = some xs) (hm : Room (es.length + xs.length) by_) :
    appV T z by_ (gV v0 b z es) x (gH H T z es) = some (gV v0 b z (es ++ xs), gH H T z (es ++ xs)) := by
  subst hbl
  cases es with
  | nil =>
    cases xs with
    | nil => exact app_nil hz hx (h0.imp_right .inl)
    | cons a l => exact app_new hz hx (by simp) h0 (by simpa using hm)
  | cons e es =>
    have hr : row? (gH H T z (e :: es)) H.length = some ⟨T, z, false, e :: es⟩ := row_app H _
    cases xs with
    | nil =>
      rw [List.append_nil]
      exact app_nil hz hx (.inr (.inr ⟨_, _, rfl⟩))
    | cons a l =>
      have := app_rw (by_ := by_) hz hr rfl hx (by simp) hm
      rw [gV_ne (by simp), this, gV_ne (by simp), gH_ne (by simp), gH_ne (by simp)]
      congr 2
      rw [List.set_append_right _ _ (Nat.le_refl _), Nat.sub_self]
      rfl
theorem gH_row {H : Heap} {T z r : Nat} {es : List (List V)} {R : Row} (h : row? H r = some R) : row? (gH H T z es) r = some R := by
  cases es with
  | nil => exact h
  | cons e es => exact row_old _ h
theorem gH_len (H : Heap) (T z : Nat) (es : List (List V)) : (gH H T z es).length = if es = [] then H.length else H.length + 1 := by
  cases es <;> simp [gH]
theorem el_g {H : Heap} {T z b : Nat} {v0 : V} {es : List (List V)} (hb : b = H.length) (h0 : v0 = .ns ∨ v0 = .zs) : elems (gH H T z es) z (gV v0 b z es) = some es := by
  subst hb
  cases es with
  | nil => rcases h0 with rfl | rfl <;> rfl
  | cons e es => exact el_rw (row_app H _) rfl
theorem row_set_self {H : Heap} {r : Nat} {R : Row} (h : row? H r = some R) : H.set r R = H := by
  unfold row? at h
  refine List.ext_getElem? fun n => ?_
  rw [List.getElem?_set]
  split
  · rename_i e; subst e; rw [h]; simp [(List.getElem?_eq_some_iff.1 h).1]
  · rfl
theorem app_any {T z by_ r n : Nat} {x : V} {H : Heap} {es xs : List (List V)} (hz : 0 < z) (hr : row? H r = some ⟨T, z, false, es⟩) (hn : n = es.length) (hx : elems H z x = some xs) (hm : Room (es.length + xs.length) by_) :
    appV T z by_ (.rw r z n) x H = some (.rw r z (es ++ xs).length, H.set r ⟨T, z, false, es ++ xs⟩) := by
  cases xs with
  | nil =>
    rw [List.append_nil, row_set_self hr, ← hn]
    exact app_nil hz hx (.inr (.inr ⟨_, _, rfl⟩))
  | cons a l => exact app_rw hz hr hn hx (by simp) hm
theorem row_keep {H : Heap} {r s : Nat} {R S : Row} (h : r ≠ s) (hs : row? H s = some S) : row? (H.set r R) s = some S := by rw [row_set_ne _ h]; exact hs
theorem in_gV {H' : Heap} {T z b : Nat} {l : Bool} {v0 : V} {es : List (List V)} (h0 : v0 = .ns ∨ v0 = .zs) (h : es ≠ [] → row? H' b = some ⟨T, z, false, es⟩) : elemsIn true l H' z (gV v0 b z es) = some es := by
  cases es with
  | nil => rcases h0 with rfl | rfl <;> rfl
  | cons e es => exact in_rw (h (by simp)) rfl
theorem el_gV {H' : Heap} {T z b : Nat} {v0 : V} {es : List (List V)} (h0 : v0 = .ns ∨ v0 = .zs) (h : es ≠ [] → row? H' b = some ⟨T, z, false, es⟩) : elems H' z (gV v0 b z es) = some es := by
  cases es with
  | nil => rcases h0 with rfl | rfl <;> rfl
  | cons e es => exact el_rw (h (by simp)) rfl
theorem len_gV {z b : Nat} {v0 : V} {es : List (List V)} (h0 : v0 = .ns ∨ v0 = .zs) : lenV false (gV v0 b z es) = some (.i .i64 (es.length : Int)) := by
  cases es with
  | nil => rcases h0 with rfl | rfl <;> rfl
  | cons e es => rfl
theorem gH_at {H : Heap} {T z b : Nat} {es : List (List V)} (hb : b = H.length) (h : es ≠ []) : row? (gH H T z es) b = some ⟨T, z, false, es⟩ := by
  subst hb
  rw [gH_ne h]
  exact row_app H _
end Go.Am

/- From a reading of the arguments to the machine, and from the machine to what the rows ask. -/
namespace Go.Am

inductive Ty where
  | int (k : IntKind)
  | bool
  | str
  | sl (e : Ty)
  | st (fs : List Ty)

mutual
def Ty.sz : Ty → Nat
  | .int _ | .bool | .str | .sl _ => 1
  | .st fs => Ty.szs fs
def Ty.szs : List Ty → Nat
  | [] => 0
  | f :: fs => f.sz + Ty.szs fs
end

/-- Fields one behind the other. -/
def fieldsT (g : TypeId → Option Ty) (c : TypeId → Nat) : Nat → List Field → Option (List Ty)
  | _, [] => some []
  | n, f :: fs => match g f.type with
    | none => none
    | some ty => match Nat.beq f.offset n && Nat.beq (c f.type) ty.sz with
      | true => match fieldsT g c (n + ty.sz) fs with | some l => some (ty :: l) | none => none
      | false => none

def tyOf (P : Program) : Nat → TypeId → Option Ty
  | 0, _ => none
  | n + 1, t => match P.underlying t with
    | some (.int k) => some (.int k)
    | some .bool => some .bool
    | some .string => some .str
    | some (.slice e) => match tyOf P n e with
      | some ty => match Nat.beq (P.cellsOf e) ty.sz && Nat.blt 0 ty.sz with | true => some (.sl ty) | false => none
      | none => none
    | some (.struct fs) => match fieldsT (tyOf P n) P.cellsOf 0 fs.toList with
      | some l => match Nat.beq (P.cellsOf t) (Ty.szs l) with | true => some (.st l) | false => none
      | none => none
    | _ => none

mutual
def HasT : Ty → List V → Prop
  | .int k, cs => ∃ n, cs = [.i k n] ∧ (Lit.int k n).wf = true
  | .bool, cs => ∃ q, cs = [.b q]
  | .str, cs => ∃ s, cs = [.s s]
  | .sl e, cs => ∃ es, cs = [.tl false e.sz es] ∧ es.length ≤ maxLen ∧ ∀ c ∈ es, HasT e c
  | .st fs, cs => HasFs fs cs
def HasFs : List Ty → List V → Prop
  | [], cs => cs = []
  | f :: fs, cs => ∃ a b, cs = a ++ b ∧ HasT f a ∧ HasFs fs b
end

section
variable {H : Type} {enc : TypeId × Value → H} {P : Program} {w : World} {base : Nat} {spare : Nat → Bool} {held : Bool}

/-- Cells, and what they are for the machine. -/
def Rd (w : World) (vs : List V) (cs : List Value) : Prop := vs.length = cs.length ∧ ∀ (j : Nat) (v : V) (u : Value), vs[j]? = some v → cs[j]? = some u → VR w [] (fun _ => False) v u ∧ u.oneCell' = true

theorem Rd.one {v : V} {u : Value} (h : VR w [] (fun _ => False) v u) (ho : u.oneCell' = true) : Rd w [v] [u] := by
  refine ⟨rfl, fun j v' u' h1 h2 => ?_⟩
  cases j with
  | zero => simp at h1 h2; subst h1; subst h2; exact ⟨h, ho⟩
  | succ j => simp at h1

theorem Rd.app {a b : List V} {c d : List Value} (h1 : Rd w a c) (h2 : Rd w b d) : Rd w (a ++ b) (c ++ d) := by
  refine ⟨by simp [h1.1, h2.1], fun j v u hv hu => ?_⟩
  rw [List.getElem?_append] at hv hu
  rw [← h1.1] at hu
  split at hv
  · rename_i hlt; rw [if_pos hlt] at hu; exact h1.2 j v u hv hu
  · rename_i hge; rw [if_neg hge] at hu; exact h2.2 _ v u hv hu

theorem fields_open {g : TypeId → Option Ty} {fuel : Nat} (hg : ∀ (t : TypeId) (ty : Ty) (cs : List Value) (x : DataW H × List MemPlace), g t = some ty → DataW.trod enc P w base spare held fuel t cs = some x → ∃ vs, HasT ty vs ∧ Rd w vs cs ∧ vs.length = ty.sz) :
    ∀ (fs : List Field) (n : Nat) (l : List Ty) (cs : List Value), fieldsT g P.cellsOf n fs = some l → cs.length = n + Ty.szs l → (∀ f ∈ fs, ∃ x, DataW.trod enc P w base spare held fuel f.type ((cs.drop f.offset).take (P.cellsOf f.type)) = some x) →
      ∃ vs, HasFs l vs ∧ Rd w vs (cs.drop n) ∧ vs.length = Ty.szs l
  | [], n, l, cs, h, hl, hf => by
    cases h
    simp only [Ty.szs, Nat.add_zero] at hl
    exact ⟨[], by simp only [HasFs], by rw [List.drop_eq_nil_of_le (by omega)]; exact ⟨rfl, by simp⟩, by simp only [Ty.szs]; rfl⟩
  | f :: fs, n, l, cs, h, hl, hf => by
    simp only [fieldsT] at h
    split at h
    · cases h
    · rename_i ty hty
      split at h
      · rename_i hb
        simp only [Bool.and_eq_true] at hb
        have ho : f.offset = n := Nat.eq_of_beq_eq_true hb.1
        have hc : P.cellsOf f.type = ty.sz := Nat.eq_of_beq_eq_true hb.2
        split at h
        · rename_i l' hl'
          cases h
          simp only [Ty.szs] at hl
          obtain ⟨x, hx⟩ := hf f (by simp)
          rw [ho, hc] at hx
          obtain ⟨vs, v1, v2, v3⟩ := hg _ _ _ _ hty hx
          obtain ⟨us, u1, u2, u3⟩ := fields_open hg fs (n + ty.sz) l' cs hl' (by omega) fun f' hf' => hf f' (by simp [hf'])
          refine ⟨vs ++ us, ?_, ?_, by simp only [Ty.szs, List.length_append]; omega⟩
          · simp only [HasFs]; exact ⟨vs, us, rfl, v1, u1⟩
          · have := v2.app u2
            rw [← List.drop_drop] at this
            rwa [List.take_append_drop] at this
        · cases h
      · cases h

theorem open_T : ∀ (n fuel : Nat) (t : TypeId) (ty : Ty) (cs : List Value) (x : DataW H × List MemPlace), tyOf P n t = some ty → DataW.trod enc P w base spare held fuel t cs = some x → ∃ vs, HasT ty vs ∧ Rd w vs cs ∧ vs.length = ty.sz := by
  intro n
  induction n with
  | zero => intro fuel t ty cs x h; cases h
  | succ n ih =>
    intro fuel t ty cs x h hx
    simp only [tyOf] at h
    cases hu : P.underlying t with
    | none => rw [hu] at h; cases h
    | some d =>
      rw [hu] at h
      cases fuel with
      | zero => simp [DataW.trod] at hx
      | succ fuel =>
        have hx0 := hx
        cases d <;> try (cases h; done)
        case bool =>
          cases h
          unfold DataW.trod at hx
          rw [hu] at hx
          split at hx <;> simp_all
          rename_i b
          exact ⟨[.b b], by simp only [HasT]; exact ⟨b, rfl⟩, Rd.one (.b b) rfl, rfl⟩
        case int k =>
          cases h
          unfold DataW.trod at hx
          rw [hu] at hx
          split at hx <;> simp_all
          rename_i m _
          obtain ⟨⟨rfl, hw⟩, _⟩ := hx
          exact ⟨[.i _ m], by simp only [HasT]; exact ⟨m, rfl, hw⟩, Rd.one (.i _ m) rfl, rfl⟩
        case string =>
          cases h
          unfold DataW.trod at hx
          rw [hu] at hx
          split at hx <;> simp_all
          rename_i s
          exact ⟨[.s s], by simp only [HasT]; exact ⟨s, rfl⟩, Rd.one (.s s) rfl, rfl⟩
        case slice e =>
          simp only at h
          split at h
          · rename_i te hte
            split at h
            · rename_i hb
              cases h
              simp only [Bool.and_eq_true] at hb
              have hc : P.cellsOf e = te.sz := Nat.eq_of_beq_eq_true hb.1
              have hpos : 0 < te.sz := by have := hb.2; simp [Nat.blt] at this; omega
              rcases Go.Deep.open_slice hu hx0 with ⟨rfl, _⟩ | ⟨a, len, cap, m, nn, D, Pl, rfl, hbase, hl, hm, hmm, rfl, hel⟩
              · refine ⟨[.tl false te.sz []], by simp only [HasT]; exact ⟨[], rfl, Nat.zero_le _, by simp⟩, Rd.one ?_ rfl, rfl⟩
                exact VR.tl false te.sz [] none 0 0 0 (fun _ _ => undef) (fun h => absurd rfl h) (Nat.zero_le _) (by simp) (by simp) (by simp)
              · have hlm : len ≤ m := by rw [hmm]; split <;> omega
                rw [hc] at hel
                have each : ∀ i, i < len → ∃ vs cs', w.cells? base (a.add (i * te.sz)) te.sz = some cs' ∧ HasT te vs ∧ Rd w vs cs' ∧ vs.length = te.sz := fun i hi => by
                  obtain ⟨cs', h1, h2⟩ := hel i (by omega)
                  obtain ⟨vs, v1, v2, v3⟩ := ih nn e te cs' _ hte h2
                  exact ⟨vs, cs', h1, v1, v2, v3⟩
                have hex : ∀ i, ∃ vs, i < len → ∃ cs', w.cells? base (a.add (i * te.sz)) te.sz = some cs' ∧ HasT te vs ∧ Rd w vs cs' ∧ vs.length = te.sz := fun i => by
                  by_cases hi : i < len
                  · obtain ⟨vs, h⟩ := each i hi; exact ⟨vs, fun _ => h⟩
                  · exact ⟨[], fun h => absurd h hi⟩
                let F : Nat → List V := fun i => Classical.choose (hex i)
                have hF : ∀ i, i < len → ∃ cs', w.cells? base (a.add (i * te.sz)) te.sz = some cs' ∧ HasT te (F i) ∧ Rd w (F i) cs' ∧ (F i).length = te.sz := fun i hi => Classical.choose_spec (hex i) hi
                let es : List (List V) := (List.range len).map F
                have hesl : es.length = len := by simp [es]
                have hget : ∀ (i : Nat) (c : List V), es[i]? = some c → i < len ∧ c = F i := by
                  intro i c hi
                  have hlt : i < len := by rw [← hesl]; exact (List.getElem?_eq_some_iff.1 hi).1
                  refine ⟨hlt, ?_⟩
                  simp only [es, List.getElem?_map, List.getElem?_range hlt, Option.map_some, Option.some.injEq] at hi
                  exact hi.symm
                have hspot : 0 < len → a.spot = none := fun h0 => by
                  obtain ⟨cs', h1, _, _, _⟩ := hF 0 h0
                  obtain ⟨_, h2, h3⟩ := World.cells?_some h1
                  have h4 := h3 0 hpos
                  rw [List.getElem?_eq_getElem (by omega)] at h4
                  simp only [Nat.zero_mul, Addr.add, if_true] at h4
                  unfold World.cell? at h4
                  split at h4
                  · split at h4
                    · cases h4
                    · rename_i hs; simpa using hs
                  · cases h4
                have hadd : 0 < len → ∀ i j, (a.add (i * te.sz)).add j = ⟨a.block, a.off + (i * te.sz + j), none⟩ := fun h0 i j => by
                  have := hspot h0
                  obtain ⟨g, o, sp⟩ := a
                  simp only at this
                  subst this
                  simp only [Addr.add]
                  split <;> split <;> simp_all <;> omega
                have hcell : ∀ (i j : Nat) (c : List V) (y : V), es[i]? = some c → c[j]? = some y → ∃ u, w.cell? ⟨a.block, a.off + (i * te.sz + j), none⟩ = some u ∧ VR w [] (fun _ => False) y u ∧ u.oneCell' = true := by
                  intro i j c y hi hj
                  obtain ⟨hlt, rfl⟩ := hget i c hi
                  obtain ⟨cs', h1, _, h3, h4⟩ := hF i hlt
                  obtain ⟨_, h5, h6⟩ := World.cells?_some h1
                  have hjl : j < te.sz := by rw [← h4]; exact (List.getElem?_eq_some_iff.1 hj).1
                  have h7 := h6 j hjl
                  rw [hadd (by omega)] at h7
                  rw [List.getElem?_eq_getElem (by omega)] at h7
                  obtain ⟨q1, q2⟩ := h3.2 j y _ hj (List.getElem?_eq_getElem (by omega))
                  exact ⟨_, h7, q1, q2⟩
                refine ⟨[.tl false te.sz es], ?_, Rd.one ?_ rfl, rfl⟩
                · simp only [HasT]
                  refine ⟨es, rfl, by omega, fun c hc' => ?_⟩
                  obtain ⟨i, hi⟩ := List.getElem?_of_mem hc'
                  obtain ⟨hlt, rfl⟩ := hget i c hi
                  obtain ⟨_, _, h2, _⟩ := hF i hlt
                  exact h2
                · have key := VR.tl (w := w) (M := []) (J := fun _ => False) false te.sz es (some a) cap a.block a.off (fun i j => (w.cell? ⟨a.block, a.off + (i * te.sz + j), none⟩).getD undef) ?_ (by omega) ?_ ?_ ?_
                  · rw [hesl] at key
                    exact key
                  · intro hne
                    have h0 : 0 < len := by
                      rcases Nat.eq_zero_or_pos len with h | h
                      · rw [h] at hesl; exact absurd (List.eq_nil_of_length_eq_zero hesl) hne
                      · exact h
                    have := hspot h0
                    obtain ⟨g, o, sp⟩ := a
                    simp only at this
                    subst this
                    exact ⟨rfl, ⟨by simp, fun _ h => h⟩, hpos⟩
                  · intro i c hi
                    obtain ⟨hlt, rfl⟩ := hget i c hi
                    obtain ⟨_, _, _, _, h4⟩ := hF i hlt
                    exact h4
                  · intro i j c y hi hj
                    obtain ⟨u, h1, h2, h3⟩ := hcell i j c y hi hj
                    rw [h1]
                    exact ⟨rfl, h3⟩
                  · intro i j c y hi hj
                    obtain ⟨u, h1, h2, h3⟩ := hcell i j c y hi hj
                    rw [h1]
                    exact h2
            · cases h
          · cases h
        case struct fs =>
          simp only at h
          split at h
          · rename_i l hl
            split at h
            · rename_i hb
              cases h
              have hc : P.cellsOf t = Ty.szs l := Nat.eq_of_beq_eq_true hb
              obtain ⟨xs, nn, hnn, rfl, hlen, hxl, hfs⟩ := DataW.trod_struct hu hx0
              cases hnn
              obtain ⟨vs, v1, v2, v3⟩ := fields_open (g := tyOf P n) (fun t ty cs x h1 h2 => ih fuel t ty cs x h1 h2) fs.toList 0 l cs hl (by omega) (fun f hf => by
                obtain ⟨i, hi⟩ := List.getElem?_of_mem hf
                have hi' : fs[i]? = some f := by simpa using hi
                have hlt : i < xs.length := by rw [hxl]; exact (Array.getElem?_eq_some_iff.1 hi').1
                exact ⟨xs[i], by rw [hfs i f hi', List.getElem?_eq_getElem hlt]⟩)
              exact ⟨vs, by simp only [HasT]; exact v1, by simpa using v2, v3⟩
            · cases h
          · cases h

/-- An argument, for the machine: a struct is an aggregate of its cells. -/
def argV (ty : Ty) (vs : List V) : V := match ty with
  | .st _ => .agg vs
  | _ => vs.headD .un
end

/-- What the machine tells of a call at the very beginning. -/
theorem calls_true {P : Program} {C : Call1} (hC : CallOk P C) {f : Nat} {xs : List V} {vals : Array Value} {W : World} (h : C f xs [] fun v _ => v = .b true) (hl : xs.length = vals.size)
    (ha : ∀ (n : Nat) (x : V) (v : Value), xs[n]? = some x → vals[n]? = some v → VR W [] (fun _ => False) x v) : Calls P f vals W fun e W' => e = .returned (.bool true) ∧ RowKit.Below W.heap.size W W' := by
  have hh : HR W [] (fun _ => False) [] := ⟨rfl, by simp, by simp, by simp, fun g h => h.elim⟩
  refine ((hC f xs [] _ W [] (fun _ => False) vals h hh hl ha).2).mono fun e W' he => ?_
  cases e with
  | returned u =>
    obtain ⟨v, H', M', rfl, _, hv, hg⟩ := he
    cases hv
    exact ⟨rfl, hg.os, hg.tape, hg.output, hg.size, fun g hlt => hg.kept g hlt (by simp)⟩
  | panicked ch => exact he.elim
  | outgrown => exact he.elim
end Go.Am

/- Equations for slices of few elements that are written out. -/
namespace Go.Am

theorem bs_eq (e : TypeId) (z : Nat) (zero : List V) (len : Nat) (ps : List (Nat × V)) (H : Heap) : buildSliceV e z zero len ps H = if zero.length = z ∧ 0 < z ∧ len * z ≤ 16777216 ∧ zero.all storable = true then (fillEs z ps (List.replicate len zero)).map fun es => (.rw H.length z es.length, H ++ [⟨e, z, false, es⟩]) else none := rfl
theorem app_eq (T z by_ : Nat) (s x : V) (H : Heap) : appV T z by_ s x H = (elems H z x).bind fun xs => appendV T z by_ s xs H := rfl
theorem apn_ns (T z by_ : Nat) (H : Heap) : appendV T z by_ .ns [] H = if 0 < z then some (.ns, H) else none := rfl
theorem apn_zs (T z by_ : Nat) (H : Heap) : appendV T z by_ .zs [] H = if 0 < z then some (.zs, H) else none := rfl
theorem apn_rw (T z by_ r z' n : Nat) (H : Heap) : appendV T z by_ (.rw r z' n) [] H = if 0 < z then some (.rw r z' n, H) else none := rfl
theorem room_eq (n by_ : Nat) : qroom n by_ = decide (n ≤ 9223372036854775807 ∧ n * by_ ≤ 140737488355328) := rfl
theorem apc_ns (T z by_ : Nat) (a : List V) (l : List (List V)) (H : Heap) : appendV T z by_ .ns (a :: l) H = if 0 < z ∧ (l.length + 1 ≤ 9223372036854775807 ∧ (l.length + 1) * by_ ≤ 140737488355328) then some (.rw H.length z (l.length + 1), H ++ [⟨T, z, false, a :: l⟩]) else none := by
  unfold appendV
  by_cases hz : 0 < z
  · rw [if_pos hz]
    show (match qroom (l.length + 1) by_ with | true => _ | false => _) = _
    rw [room_eq]
    by_cases h : l.length + 1 ≤ 9223372036854775807 ∧ (l.length + 1) * by_ ≤ 140737488355328
    · rw [decide_eq_true h, if_pos ⟨hz, h⟩]; rfl
    · rw [decide_eq_false h, if_neg (fun q => h q.2)]
  · rw [if_neg hz, if_neg (fun q => hz q.1)]
theorem apc_zs (T z by_ : Nat) (a : List V) (l : List (List V)) (H : Heap) : appendV T z by_ .zs (a :: l) H = if 0 < z ∧ (l.length + 1 ≤ 9223372036854775807 ∧ (l.length + 1) * by_ ≤ 140737488355328) then some (.rw H.length z (l.length + 1), H ++ [⟨T, z, false, a :: l⟩]) else none := apc_ns T z by_ a l H
theorem apc_rw (T z by_ r z' n : Nat) (a : List V) (l : List (List V)) (H : Heap) : appendV T z by_ (.rw r z' n) (a :: l) H = (row? H r).bind fun R => if 0 < z ∧ (R.e = T ∧ R.z = z ∧ z' = z ∧ R.bx = false) ∧ n = R.es.length ∧ (R.es.length + (l.length + 1) ≤ 9223372036854775807 ∧ (R.es.length + (l.length + 1)) * by_ ≤ 140737488355328) then
    some (.rw r z (R.es ++ a :: l).length, H.set r ⟨R.e, R.z, R.bx, R.es ++ a :: l⟩) else none := by
  have hq : qnil (a :: l) = false := rfl
  unfold appendV
  simp only [hq]
  cases hr : row? H r with
  | none => by_cases hz : 0 < z <;> simp [hz]
  | some R =>
    by_cases hz : 0 < z
    · rw [if_pos hz]
      show (if R.e = T ∧ R.z = z ∧ z' = z ∧ R.bx = false then _ else none) = _
      rw [Option.bind_some]
      by_cases h : R.e = T ∧ R.z = z ∧ z' = z ∧ R.bx = false
      · rw [if_pos h]
        have e1 : qadd (qlen R.es) (qlen (a :: l)) = R.es.length + (l.length + 1) := rfl
        have e2 : qsame n (qlen R.es) = decide (n = R.es.length) := rfl
        rw [e1, e2, room_eq]
        by_cases h2 : n = R.es.length
        · rw [decide_eq_true h2]
          by_cases h3 : R.es.length + (l.length + 1) ≤ 9223372036854775807 ∧ (R.es.length + (l.length + 1)) * by_ ≤ 140737488355328
          · rw [decide_eq_true h3, if_pos ⟨hz, h, h2, h3⟩]; rfl
          · rw [decide_eq_false h3, if_neg (fun q => h3 q.2.2.2)]
        · rw [decide_eq_false h2, if_neg (fun q => h2 q.2.2.1)]
      · rw [if_neg h, if_neg (fun q => h q.2.1)]
    · rw [if_neg hz, Option.bind_some, if_neg (fun q => hz q.1)]
theorem els_rw (H : Heap) (z r z' n : Nat) : elems H z (.rw r z' n) = (row? H r).bind fun R => if (R.z = z ∧ z' = z ∧ R.bx = false) ∧ n = R.es.length then some R.es else none := by
  have e0 : elems H z (.rw r z' n) = (row? H r).bind fun R => if R.z = z ∧ z' = z ∧ R.bx = false then (match qsame n (qlen R.es) with | true => some R.es | false => none) else none := rfl
  rw [e0]
  congr 1
  funext R
  by_cases h : R.z = z ∧ z' = z ∧ R.bx = false
  · rw [if_pos h]
    have e2 : qsame n (qlen R.es) = decide (n = R.es.length) := rfl
    rw [e2]
    by_cases h2 : n = R.es.length
    · rw [decide_eq_true h2, if_pos ⟨h, h2⟩]
    · rw [decide_eq_false h2, if_neg (fun q => h2 q.2)]
  · rw [if_neg h, if_neg (fun q => h q.1)]
theorem els_tl (H : Heap) (z z' : Nat) (w : Bool) (es : List (List V)) : elems H z (.tl w z' es) = if z' = z then some es else none := rfl
theorem ins_rw (l : Bool) (H : Heap) (z r z' n : Nat) : elemsIn true l H z (.rw r z' n) = elems H z (.rw r z' n) := rfl
theorem allM_nil {α β : Type} (f : α → Option β) : allM f [] = some [] := rfl
theorem allM_cons {α β : Type} (f : α → Option β) (a : α) (l : List α) : allM f (a :: l) = (f a).bind fun b => (allM f l).map (b :: ·) := rfl
theorem fillEs_cons (z i : Nat) (v : V) (rest : List (Nat × V)) (es : List (List V)) : fillEs z ((i, v) :: rest) es = if (cellsV v).length = z ∧ i < es.length ∧ (cellsV v).all storable = true then fillEs z rest (es.set i (cellsV v)) else none := rfl

theorem amX : ((∀ (e : TypeId) (z : Nat) (zero : List V) (len : Nat) (ps : List (Nat × V)) (H : Heap), buildSliceV e z zero len ps H = if zero.length = z ∧ 0 < z ∧ len * z ≤ 16777216 ∧ zero.all storable = true then (fillEs z ps (List.replicate len zero)).map fun es => (.rw H.length z es.length, H ++ [⟨e, z, false, es⟩]) else none) ∧
  (∀ (T z by_ : Nat) (s x : V) (H : Heap), appV T z by_ s x H = (elems H z x).bind fun xs => appendV T z by_ s xs H) ∧
  (∀ (T z by_ : Nat) (H : Heap), appendV T z by_ .ns [] H = if 0 < z then some (.ns, H) else none) ∧
  (∀ (T z by_ : Nat) (H : Heap), appendV T z by_ .zs [] H = if 0 < z then some (.zs, H) else none) ∧
  (∀ (T z by_ r z' n : Nat) (H : Heap), appendV T z by_ (.rw r z' n) [] H = if 0 < z then some (.rw r z' n, H) else none) ∧
  (∀ (T z by_ : Nat) (a : List V) (l : List (List V)) (H : Heap), appendV T z by_ .ns (a :: l) H = if 0 < z ∧ (l.length + 1 ≤ 9223372036854775807 ∧ (l.length + 1) * by_ ≤ 140737488355328) then some (.rw H.length z (l.length + 1), H ++ [⟨T, z, false, a :: l⟩]) else none) ∧
  (∀ (T z by_ : Nat) (a : List V) (l : List (List V)) (H : Heap), appendV T z by_ .zs (a :: l) H = if 0 < z ∧ (l.length + 1 ≤ 9223372036854775807 ∧ (l.length + 1) * by_ ≤ 140737488355328) then some (.rw H.length z (l.length + 1), H ++ [⟨T, z, false, a :: l⟩]) else none) ∧
  (∀ (T z by_ r z' n : Nat) (a : List V) (l : List (List V)) (H : Heap), appendV T z by_ (.rw r z' n) (a :: l) H = (row? H r).bind fun R => if 0 < z ∧ (R.e = T ∧ R.z = z ∧ z' = z ∧ R.bx = false) ∧ n = R.es.length ∧ (R.es.length + (l.length + 1) ≤ 9223372036854775807 ∧ (R.es.length + (l.length + 1)) * by_ ≤ 140737488355328) then
    some (.rw r z (R.es ++ a :: l).length, H.set r ⟨R.e, R.z, R.bx, R.es ++ a :: l⟩) else none) ∧
  (∀ (H : Heap) (z r z' n : Nat), elems H z (.rw r z' n) = (row? H r).bind fun R => if (R.z = z ∧ z' = z ∧ R.bx = false) ∧ n = R.es.length then some R.es else none) ∧
  (∀ (H : Heap) (z z' : Nat) (w : Bool) (es : List (List V)), elems H z (.tl w z' es) = if z' = z then some es else none) ∧ (∀ (H : Heap) (z : Nat), elems H z .ns = some []) ∧ (∀ (H : Heap) (z : Nat), elems H z .zs = some []) ∧
  (∀ (l : Bool) (H : Heap) (z r z' n : Nat), elemsIn true l H z (.rw r z' n) = elems H z (.rw r z' n)) ∧
  (∀ (α β : Type) (f : α → Option β), allM f [] = some []) ∧ (∀ (α β : Type) (f : α → Option β) (a : α) (l : List α), allM f (a :: l) = (f a).bind fun b => (allM f l).map (b :: ·)) ∧
  (∀ (α : Type) (l : List α), [] ++ l = l) ∧ (∀ (α : Type) (a : α) (l m : List α), (a :: l) ++ m = a :: (l ++ m))) :=
  ⟨bs_eq, app_eq, apn_ns, apn_zs, apn_rw, apc_ns, apc_zs, apc_rw, els_rw, els_tl, el_ns, el_zs, ins_rw, fun _ _ => allM_nil, fun _ _ => allM_cons, fun _ => List.nil_append, fun _ _ _ _ => List.cons_append⟩
end Go.Am

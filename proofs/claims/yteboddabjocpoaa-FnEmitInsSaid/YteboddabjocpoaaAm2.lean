/- The operations that look at memory are sound: loads, stores. -/
import Derived.Test.YteboddabjocpoaaAm1
import Derived.Laws.CopyRow
import Derived.Laws.MakeOwn
import Derived.Laws.Append
import Derived.Laws.AppendOwn
import Derived.Laws.BytesString
import Derived.Great.BuildSlice
set_option linter.all false
namespace Go.Am
section
variable {P : Program} {T : Types} {w : World} {M : List RI} {J : Nat → Prop} {H : Heap}

theorem elAt_spec (hh : HR w M J H) {r z n i o : Nat} {u : Value} {R : Row} {c : List V} (hx : VR w M J (.p r z n i o) u) (hR : row? H r = some R) (hc : elAt R z n i = some c) :
    ∃ (m : RI) (cur : Array Value), M[r]? = some m ∧ RowR w M J m R cur ∧ R.z = z ∧ R.es[i]? = some c ∧ u = .pointer (some ⟨m.g, i * z + o, none⟩) := by
  obtain ⟨m, cur, hm, hr⟩ := hh.row r R hR
  refine ⟨m, cur, hm, hr, ?_⟩
  unfold elAt at hc
  split at hc
  · rename_i hz
    have hn : n = R.es.length ∧ R.es[i]? = some c := by
      split at hc
      · rename_i hb
        split at hc
        · rename_i h1; exact ⟨by rw [hr.one hb, h1], hc⟩
        · cases hc
      · split at hc
        · rename_i hq; unfold qsame at hq; exact ⟨of_decide_eq_true hq, hc⟩
        · cases hc
    refine ⟨hz, hn.2, ?_⟩
    cases hx with
    | p _ _ _ _ _ m' a hm' hz' hn' ha =>
      rw [hm] at hm'
      cases hm'
      rw [ha (by rw [hn.1, hr.len])]
  · cases hc

/-- The cells of an element. -/
theorem RowR.elem {m : RI} {R : Row} {cur : Array Value} (hr : RowR w M J m R cur) {i : Nat} {c : List V} (hc : R.es[i]? = some c) :
    c.length = R.z ∧ i * R.z + R.z ≤ cur.size ∧ Cs w M J c ((cur.toList.drop (i * R.z)).take R.z) := by
  obtain ⟨h1, h2⟩ := hr.els i c hc
  have hlt : i < R.es.length := (List.getElem?_eq_some_iff.1 hc).1
  have hs : i * R.z + R.z ≤ cur.size := by
    rw [hr.size, hr.z]
    have : i + 1 ≤ m.cap := by have := hr.le; have := hr.len; omega
    calc i * R.z + R.z = (i + 1) * R.z := by rw [Nat.add_mul, Nat.one_mul]
      _ ≤ m.cap * R.z := Nat.mul_le_mul_right _ this
  refine ⟨h1, hs, by simp [h1]; omega, fun j x v hx hv => ?_⟩
  obtain ⟨v', k1, k2, _⟩ := h2 j x hx
  rw [List.getElem?_take] at hv
  split at hv
  · rw [List.getElem?_drop, Array.getElem?_toList, k1] at hv
    cases hv
    exact k2
  · cases hv

theorem load_run {ty z : Nat} (hT : TypesOk P T) (hz : sz T ty = some z) {g o : Nat} {vs : List Value} {cs : List V} {v : V} (hc : w.rangeAt g o vs) (hcs : Cs w M J cs vs) (hl : cs.length = z) (hw : wrapV (isAggT T ty) cs = some v) :
    ∃ r, (Instr.loadAt ty (.pointer (some ⟨g, o, none⟩))).run P w = .ok r w ∧ VR w M J v r := by
  obtain ⟨i, hi, hiz⟩ := sz_spec hT hz
  have ha := isAggT_spec hT hz w
  obtain ⟨w1, w2⟩ := wrap_spec hcs hw
  cases hb : isAggT T ty with
  | true =>
    rw [hb] at ha
    refine ⟨_, ?_, w1 hb⟩
    have hlen : vs.length = z := by rw [hcs.1, hl]
    have := run_loadCells_list (P := P) w ⟨g, o, none⟩ vs (fun j v hv => by rw [Addr.add_mid]; exact hc j v hv)
    rw [hlen] at this
    simp [Instr.loadAt, Instr.sureAddr, loadVar, ha, run_sizeOf hi, hiz, this]
  | false =>
    rw [hb] at ha
    obtain ⟨r, rfl, hr⟩ := w2 hb
    refine ⟨r, ?_, hr⟩
    have := hc 0 r rfl
    simp only [Nat.add_zero] at this
    simp [Instr.loadAt, Instr.sureAddr, loadVar, ha, this]

theorem load_sound (hT : TypesOk P T) (hh : HR w M J H) {ty z : Nat} {x v : V} {u : Value} (hz : sz T ty = some z) (h : loadV z (isAggT T ty) x H = some v) (hx : VR w M J x u) :
    ∃ r, (Instr.loadAt ty u).run P w = .ok r w ∧ VR w M J v r := by
  unfold loadV at h
  split at h
  · rename_i r z' n i o
    simp only [Option.bind_eq_some_iff] at h
    obtain ⟨R, hR, c, hc, cs, hcut, hw⟩ := h
    obtain ⟨m, cur, hm, hr, rfl, hes, rfl⟩ := elAt_spec hh hx hR hc
    obtain ⟨e1, e2, e3⟩ := hr.elem hes
    obtain ⟨c1, c2, c3⟩ := cut_spec e3 hcut
    refine load_run hT hz ?_ c3 c2 hw
    intro j v hv
    rw [List.getElem?_take] at hv
    split at hv
    · rw [List.getElem?_drop, List.getElem?_take] at hv
      split at hv
      · rw [List.getElem?_drop, Array.getElem?_toList] at hv
        rw [cell_of_row w m.g _ cur R.e (0, 0) hr.heap, Nat.add_assoc]
        exact hv
      · cases hv
    · cases hv
  · rename_i cs
    simp only [Option.bind_eq_some_iff] at h
    obtain ⟨cs', hcut, hw⟩ := h
    cases hx with
    | pe _ g o f ha hc hv =>
      have hcs : Cs w M J cs ((List.range cs.length).map f) := by
        refine ⟨by simp, fun j x v hx hv' => ?_⟩
        rw [List.getElem?_map, List.getElem?_range (List.getElem?_eq_some_iff.1 hx).1] at hv'
        cases hv'
        exact hv j x hx
      obtain ⟨c1, c2, c3⟩ := cut_spec hcs hcut
      refine load_run hT hz ?_ c3 c2 hw
      intro j v hv'
      rw [List.getElem?_take] at hv'
      split at hv'
      · rw [List.drop_zero, List.getElem?_map, Option.map_eq_some_iff] at hv'
        obtain ⟨j', hj', rfl⟩ := hv'
        have hlt : j < cs.length := by
          have := (List.getElem?_eq_some_iff.1 hj').1
          simpa using this
        rw [List.getElem?_range hlt] at hj'
        cases hj'
        exact hc j cs[j] (List.getElem?_eq_getElem hlt)
      · cases hv'
  · cases h

theorem Goes.setRow {m : RI} (hm : m ∈ M) (cur' : Array Value) : Goes w M (w.setRow m.g cur') M :=
  ⟨fun _ m h => ⟨m, h, rfl, .inl rfl⟩, by simp, fun g _ hM => setRow_other w m.g g cur' (fun e => hM m hm e.symm), fun m hm => .inl ⟨m, hm, rfl⟩, rfl, rfl, rfl⟩

theorem HR.setRow (hh : HR w M J H) {r : Nat} {m : RI} {R R' : Row} {cur cur' : Array Value} (hm : M[r]? = some m) (hr : RowR w M J m R cur) (hR : H[r]? = some R) (he : R'.e = R.e) (hz : R'.z = R.z) (hb : R'.bx = R.bx) (hl : R'.es.length = R.es.length) (hs : cur'.size = cur.size)
    (hel : Elems w M J R.z R'.es cur') : HR (w.setRow m.g cur') M J (H.set r R') := by
  have hgo : Goes w M (w.setRow m.g cur') M := .setRow (List.mem_of_getElem? hm) cur'
  refine ⟨by simp [hh.len], ?_, hh.inj, fun m' hm' => ⟨by simpa using (hh.blk m' hm').1, (hh.blk m' hm').2⟩, fun g hg => by simpa using hh.jlt g hg⟩
  intro r2 R2 h2
  rw [List.getElem?_set] at h2
  split at h2
  · rename_i e
    subst e
    split at h2
    · cases h2
      exact ⟨m, cur', hm, by rw [hz]; exact hr.z, by rw [hl]; exact hr.len, by rw [hz]; exact hr.pos, by rw [he]; exact setRow_heap w m.g cur cur' R.e (0, 0) hr.heap, hr.le, hr.max, by rw [hs]; exact hr.size, by rw [hz]; exact hel.goes hgo, by rw [hb, hl]; exact hr.one⟩
    · cases h2
  · rename_i hne
    obtain ⟨m2, cur2, hm2, hr2⟩ := hh.row r2 R2 h2
    have hg : m2.g ≠ m.g := fun e => hne (hh.inj r2 r m2 m hm2 hm e).symm
    exact ⟨m2, cur2, hm2, hr2.z, hr2.len, hr2.pos, by rw [setRow_other w m.g m2.g cur' hg]; exact hr2.heap, hr2.le, hr2.max, hr2.size, hr2.els.goes hgo, hr2.one⟩

theorem storable_one {x : V} {v : Value} (h : VR w M J x v) (hs : storable x = true) : v.oneCell' = true := by
  cases h <;> first | rfl | cases hs

theorem cells_one {x : V} {u : Value} (h : VR w M J x u) (ht : okTop x = true) (hs : (cellsV x).all storable = true) : ∀ v ∈ u.cells.toList, v.oneCell' = true := by
  have hc := cells_spec h ht
  intro v hv
  obtain ⟨j, hj⟩ := List.mem_iff_getElem?.1 hv
  have hlt : j < (cellsV x).length := by rw [← hc.1]; exact (List.getElem?_eq_some_iff.1 hj).1
  have hx := List.getElem?_eq_getElem hlt
  exact storable_one (hc.2 j _ _ hx hj) (List.all_eq_true.1 hs _ (List.mem_of_getElem? hx))

theorem okTop_of {x : V} (hs : (cellsV x).all storable = true) : okTop x = true := by
  cases x <;> first | rfl | (simp [cellsV, storable] at hs)

theorem store_sound (hT : TypesOk P T) (hh : HR w M J H) {ty z : Nat} {x y : V} {u uy : Value} {H' : Heap} (hz : sz T ty = some z) (h : storeV z x y H = some H') (hx : VR w M J x u) (hy : VR w M J y uy) :
    ∃ w', (Instr.storeAt ty u uy).run P w = .ok () w' ∧ HR w' M J H' ∧ Goes w M w' M := by
  obtain ⟨ti, hti, htz⟩ := sz_spec hT hz
  unfold storeV at h
  split at h
  · rename_i hcond
    obtain ⟨hlen, hst⟩ := hcond
    have hcs := cells_spec hy (okTop_of hst)
    have hone := cells_one hy (okTop_of hst) hst
    split at h
    · rename_i r z' n i o
      simp only [Option.bind_eq_some_iff] at h
      obtain ⟨R, hR, c, hc, hif⟩ := h
      obtain ⟨m, cur, hm, hr, rfl, hes, rfl⟩ := elAt_spec hh hx hR hc
      obtain ⟨e1, e2, e3⟩ := hr.elem hes
      split at hif
      · rename_i ho
        cases hif
        have hvl : uy.cells.toList.length = z := by rw [hcs.1, hlen]
        have hrun := run_storeCells_at (P := P) m.g (i * R.z + o) R.e uy.cells.toList 0 cur w hr.heap (by omega) hone
        simp only [Nat.add_zero, hvl] at hrun
        have hcl : (cur.toList.take (i * R.z + o)).length = i * R.z + o := by rw [List.length_take, Array.length_toList]; omega
        refine ⟨w.setRow m.g (cur.toList.take (i * R.z + o) ++ uy.cells.toList ++ cur.toList.drop (i * R.z + o + z)).toArray, ?_, HR.setRow (R' := { R with es := match R.bx with | true => R.es.set i (c.take o ++ (cellsV y ++ c.drop (o + z))) | false => qset R.es i (c.take o ++ (cellsV y ++ c.drop (o + z))) }) hh hm hr hR rfl rfl rfl ?_ ?_ ?_, Goes.setRow (List.mem_of_getElem? hm) _⟩
        rotate_left
        · simp only
          split <;> simp [qset]
        · simp only [List.size_toArray, List.length_append, hcl, hvl, List.length_drop, Array.length_toList]
          omega
        · have hset : (match R.bx with | true => R.es.set i (c.take o ++ (cellsV y ++ c.drop (o + z))) | false => qset R.es i (c.take o ++ (cellsV y ++ c.drop (o + z)))) = R.es.set i (c.take o ++ (cellsV y ++ c.drop (o + z))) := by
            split <;> rfl
          simp only [hset]
          intro i2 c2 h2
          have hget : ∀ k, ((cur.toList.take (i * R.z + o) ++ uy.cells.toList ++ cur.toList.drop (i * R.z + o + z)).toArray)[k]? = if k < i * R.z + o then cur[k]? else if k < i * R.z + o + z then uy.cells.toList[k - (i * R.z + o)]? else cur[k]? := by
            intro k
            rw [List.getElem?_toArray, List.append_assoc, List.getElem?_append, hcl]
            split
            · rename_i hk; rw [List.getElem?_take_of_lt hk, Array.getElem?_toList]
            · rename_i hk
              rw [List.getElem?_append, hvl]
              split
              · rename_i hk'; rw [if_pos (by omega)]
              · rename_i hk'
                rw [if_neg (by omega), List.getElem?_drop, Array.getElem?_toList]
                congr 1
                omega
          rw [List.getElem?_set] at h2
          split at h2
          · rename_i e
            subst e
            split at h2
            · cases h2
              refine ⟨by simp; omega, fun j x hj => ?_⟩
              have lt1 : (c.take o).length = o := by rw [List.length_take]; omega
              rw [List.getElem?_append, lt1] at hj
              rw [hget]
              split at hj
              · rename_i hjo
                rw [List.getElem?_take_of_lt hjo] at hj
                rw [if_pos (by omega)]
                exact (hr.els i c hes).2 j x hj
              · rename_i hjo
                rw [if_neg (by omega)]
                rw [List.getElem?_append, hlen] at hj
                split at hj
                · rename_i hjz
                  rw [if_pos (by omega)]
                  have hlt : j - o < uy.cells.toList.length := by omega
                  have hu := List.getElem?_eq_getElem hlt
                  rw [show i * R.z + j - (i * R.z + o) = j - o by omega]
                  exact ⟨_, hu, hcs.2 _ _ _ hj hu, hone _ (List.mem_of_getElem? hu)⟩
                · rename_i hjz
                  rw [if_neg (by omega)]
                  rw [List.getElem?_drop] at hj
                  have := (hr.els i c hes).2 _ x hj
                  rw [show o + z + (j - o - z) = j by omega] at this
                  exact this
            · cases h2
          · rename_i hne
            obtain ⟨k1, k2⟩ := hr.els i2 c2 h2
            refine ⟨k1, fun j x hj => ?_⟩
            have hjl : j < R.z := by rw [← k1]; exact (List.getElem?_eq_some_iff.1 hj).1
            rw [hget]
            have hd : i2 * R.z + j < i * R.z + o ∨ i * R.z + o + z ≤ i2 * R.z + j := by
              rcases Nat.lt_or_gt_of_ne hne with hlt | hlt
              · right
                have : (i + 1) * R.z ≤ i2 * R.z := Nat.mul_le_mul_right _ hlt
                rw [Nat.add_mul] at this
                omega
              · left
                have : (i2 + 1) * R.z ≤ i * R.z := Nat.mul_le_mul_right _ hlt
                rw [Nat.add_mul] at this
                omega
            rcases hd with hd | hd
            · rw [if_pos hd]; exact k2 j x hj
            · rw [if_neg (by omega), if_neg (by omega)]; exact k2 j x hj
        · have hsz : uy.cells.size = ti.size := by rw [htz, ← hvl]; simp
          simp only [Instr.storeAt, Instr.sureAddr, storeVar, Sem.run_bind, Sem.run_pure, Result.andThen_ok, run_sizeOf hti, hsz, ne_eq, not_true_eq_false, if_false]
          exact hrun
      · cases hif
    · cases h
  · cases h

end
end Go.Am

/- The operations that make memory are sound: variables, slices made. -/
namespace Go.Am
section
variable {P : Program} {T : Types} {w w' : World} {M : List RI} {J : Nat → Prop} {H : Heap}

theorem Goes.push {o : Obj} (hw : w'.heap = w.heap.push o) (ho : w'.os = w.os) (ht : w'.tape = w.tape) (hp : w'.output = w.output) (m : RI) (hm : m.g = w.heap.size) : Goes w M w' (M ++ [m]) := by
  refine ⟨fun r m h => ⟨m, by rw [List.getElem?_append_left (List.getElem?_eq_some_iff.1 h).1]; exact h, rfl, .inl rfl⟩, by rw [hw]; simp, fun g hg _ => by rw [hw, Array.getElem?_push]; simp [Nat.ne_of_lt hg], fun m' hm' => ?_, ho, ht, hp⟩
  rcases List.mem_append.1 hm' with h | h
  · exact .inl ⟨m', h, rfl⟩
  · simp at h; subst h; exact .inr (by omega)

theorem Goes.push0 {o : Obj} (hw : w'.heap = w.heap.push o) (ho : w'.os = w.os) (ht : w'.tape = w.tape) (hp : w'.output = w.output) : Goes w M w' M :=
  ⟨fun _ m h => ⟨m, h, rfl, .inl rfl⟩, by rw [hw]; simp, fun g hg _ => by rw [hw, Array.getElem?_push]; simp [Nat.ne_of_lt hg], fun m' hm' => .inl ⟨m', hm', rfl⟩, ho, ht, hp⟩

theorem HR.goes (hh : HR w M J H) (hg : Goes w M w' M) (hb : ∀ m ∈ M, w'.heap[m.g]? = w.heap[m.g]?) : HR w' M J H := by
  refine ⟨hh.len, ?_, hh.inj, fun m hm => ⟨Nat.lt_of_lt_of_le (hh.blk m hm).1 hg.size, (hh.blk m hm).2⟩, fun g h => Nat.lt_of_lt_of_le (hh.jlt g h) hg.size⟩
  intro r R hR
  obtain ⟨m, cur, hm, hr⟩ := hh.row r R hR
  exact ⟨m, cur, hm, hr.z, hr.len, hr.pos, by rw [hb m (List.mem_of_getElem? hm)]; exact hr.heap, hr.le, hr.max, hr.size, hr.els.goes hg, hr.one⟩

theorem HR.push {R : Row} {cur : Array Value} (hh : HR w M J H) (hw : w'.heap = w.heap.push (.cells cur R.e)) (ho : w'.os = w.os) (ht : w'.tape = w.tape) (hp : w'.output = w.output) (cap : Nat) (hz : 0 < R.z) (hc : R.es.length ≤ cap) (hm : cap ≤ maxLen)
    (hs : cur.size = cap * R.z) (hel : Elems w M J R.z R.es cur) (hone : R.bx = true → R.es.length = 1) :
    HR w' (M ++ [⟨w.heap.size, R.z, R.es.length, cap⟩]) J (H ++ [R]) ∧ Goes w M w' (M ++ [⟨w.heap.size, R.z, R.es.length, cap⟩]) := by
  have hgo : Goes w M w' (M ++ [⟨w.heap.size, R.z, R.es.length, cap⟩]) := .push hw ho ht hp _ rfl
  refine ⟨⟨by simp [hh.len], ?_, ?_, ?_, fun g h => Nat.lt_of_lt_of_le (hh.jlt g h) hgo.size⟩, hgo⟩
  · intro r R2 hR
    rw [List.getElem?_append] at hR
    split at hR
    · rename_i hlt
      obtain ⟨m, cur2, hm, hr⟩ := hh.row r R2 hR
      refine ⟨m, cur2, by rw [List.getElem?_append_left (by rw [← hh.len]; exact hlt)]; exact hm, hr.z, hr.len, hr.pos, ?_, hr.le, hr.max, hr.size, hr.els.goes hgo, hr.one⟩
      have := (hh.blk m (List.mem_of_getElem? hm)).1
      rw [hw, Array.getElem?_push]
      simp [Nat.ne_of_lt this]
      exact hr.heap
    · rename_i hge
      have hr0 : r - H.length = 0 := by
        rcases Nat.eq_zero_or_pos (r - H.length) with h | h
        · exact h
        · rw [List.getElem?_eq_none (by simp; omega)] at hR; cases hR
      rw [hr0] at hR
      simp at hR
      subst hR
      have : r = M.length := by rw [← hh.len]; omega
      subst this
      exact ⟨⟨w.heap.size, R.z, R.es.length, cap⟩, cur, by simp, rfl, rfl, hz, by rw [hw]; simp, hc, hm, hs, hel.goes hgo, hone⟩
  · intro r r' m m' h1 h2 hg
    rw [List.getElem?_append] at h1 h2
    have last : ∀ k, ¬ k < M.length → ∀ q, [(⟨w.heap.size, R.z, R.es.length, cap⟩ : RI)][k - M.length]? = some q → q.g = w.heap.size ∧ k = M.length := by
      intro k hk q hq
      have : k - M.length < 1 := (List.getElem?_eq_some_iff.1 hq).1
      have h0 : k - M.length = 0 := by omega
      rw [h0] at hq
      simp at hq
      exact ⟨by rw [← hq], by omega⟩
    split at h1 <;> split at h2
    · exact hh.inj r r' m m' h1 h2 hg
    · rename_i k1 k2
      have := (hh.blk m (List.mem_of_getElem? h1)).1
      have := (last r' k2 m' h2).1
      omega
    · rename_i k1 k2
      have := (hh.blk m' (List.mem_of_getElem? h2)).1
      have := (last r k1 m h1).1
      omega
    · rename_i k1 k2
      rw [(last r k1 m h1).2, (last r' k2 m' h2).2]
  · intro m hm
    rcases List.mem_append.1 hm with h | h
    · exact ⟨Nat.lt_of_lt_of_le (hh.blk m h).1 hgo.size, (hh.blk m h).2⟩
    · simp at h
      subst h
      refine ⟨by rw [hw]; simp, fun hj => ?_⟩
      have := hh.jlt _ hj
      simp at this

theorem newVar_sound (hh : HR w M J H) {e : TypeId} {cs : List V} {vs : Array Value} (hpos : 0 < cs.length) (hcs : Cs w M J cs vs.toList) (hone : ∀ v ∈ vs.toList, v.oneCell' = true) :
    ∃ a w' M', (newRow e vs).run P w = .ok a w' ∧ VR w' M' J (.p H.length cs.length 1 0 0) (.pointer (some a)) ∧ HR w' M' J (newRowH e cs.length true [cs] H) ∧ Goes w M w' M' := by
  have hl := hcs.1
  obtain ⟨h1, h2⟩ := HR.push (R := { e := e, z := cs.length, bx := true, es := [cs] }) (cur := vs) (w' := { w with heap := w.heap.push (.cells vs e) }) hh rfl rfl rfl rfl 1 hpos (by simp) (by simp [maxLen])
    (by simpa using hl) (by
      intro i c hi
      have hi1 : i < 1 := (List.getElem?_eq_some_iff.1 hi).1
      have : i = 0 := by omega
      subst this
      simp at hi
      subst hi
      refine ⟨rfl, fun j x hj => ?_⟩
      have hlt : j < vs.toList.length := by rw [hl]; exact (List.getElem?_eq_some_iff.1 hj).1
      have hv := List.getElem?_eq_getElem hlt
      exact ⟨_, by simpa using hv, hcs.2 j x _ hj hv, hone _ (List.mem_of_getElem? hv)⟩) (by simp)
  refine ⟨⟨w.heap.size, 0, none⟩, _, _, ?_, ?_, h1, h2⟩
  · simp [newRow]
  · exact .p _ _ _ _ _ ⟨w.heap.size, cs.length, 1, 1⟩ _ (by rw [hh.len]; simp) rfl (Nat.le_refl _) fun _ => by simp

theorem alloc_sound (hT : TypesOk P T) (hh : HR w M J H) {e : TypeId} {zs : List V} {v : V} {H' : Heap} (hz : zeroT T e = some zs) (h : allocV e zs H = some (v, H')) :
    ∃ u w' M', (Instr.alloc e true (.tuple #[])).run P w = .ok u w' ∧ VR w' M' J v u ∧ HR w' M' J H' ∧ Goes w M w' M' := by
  obtain ⟨i, z, hi, hz', rfl⟩ := zeroT_spec hT hz
  unfold allocV at h
  split at h
  · rename_i hc
    cases h
    have hcs : Cs w M J (z.cells.toList.map ofC) z.cells.toList := zero_Cs _
    have hone : ∀ v ∈ z.cells.toList, v.oneCell' = true := by
      intro v hv
      have := List.all_eq_true.1 hc.2 (ofC v) (List.mem_map_of_mem hv)
      exact storable_one (ofC_VR (w := w) (M := M) (J := J) v) this
    obtain ⟨a, w', M', h1, h2, h3, h4⟩ := newVar_sound (P := P) hh (e := e) hc.1 hcs hone
    exact ⟨_, w', M', by simp [Instr.alloc, zeroValue, typeInfo, hi, hz', newVar, h1], h2, h3, h4⟩
  · cases h

theorem box_sound (hh : HR w M J H) {e : TypeId} {x v : V} {u : Value} {H' : Heap} (h : boxV e x H = some (v, H')) (hx : VR w M J x u) :
    ∃ r w' M', (Instr.box e u).run P w = .ok r w' ∧ VR w' M' J v r ∧ HR w' M' J H' ∧ Goes w M w' M' := by
  unfold boxV at h
  split at h
  · rename_i hc
    cases h
    obtain ⟨a, w', M', h1, h2, h3, h4⟩ := newVar_sound (P := P) hh (e := e) hc.1 (cells_spec hx (okTop_of hc.2)) (cells_one hx (okTop_of hc.2) hc.2)
    exact ⟨_, w', M', by simp [Instr.box, newVar, h1], h2, h3, h4⟩
  · cases h

end
end Go.Am

/- The operations that make memory are sound: append. -/
namespace Go.Am
section
variable {P : Program} {T : Types} {w w' : World} {M : List RI} {J : Nat → Prop} {H : Heap}

/-- What a slice's elements are in the model. -/
structure ElemsAt (w : World) (M : List RI) (J : Nat → Prop) (z : Nat) (es : List (List V)) (a : Option Addr) : Prop where
  sz : ∀ (i : Nat) (cs : List V), es[i]? = some cs → cs.length = z
  at_ : es ≠ [] → ∃ g o, a = some ⟨g, o, none⟩ ∧ ∀ (i j : Nat) (cs : List V) (y : V), es[i]? = some cs → cs[j]? = some y → ∃ v, w.cell? ⟨g, o + (i * z + j), none⟩ = some v ∧ VR w M J y v ∧ v.oneCell' = true

theorem elems_spec (hh : HR w M J H) {z : Nat} {x : V} {u : Value} {es : List (List V)} (h : elems H z x = some es) (hx : VR w M J x u) :
    ∃ a c, u = .slice a es.length c ∧ es.length ≤ c ∧ ElemsAt w M J z es a := by
  have row : ∀ {r z' n : Nat} {m : RI}, M[r]? = some m → ∀ R, row? H r = some R → R.z = z → z' = z → n = R.es.length → n = m.len ∧ ∃ cur : Array Value, RowR w M J m R cur := by
    intro r z' n m hm R hR _ _ hn
    obtain ⟨m', cur, hm', hr⟩ := hh.row r R hR
    rw [hm] at hm'
    cases hm'
    exact ⟨by rw [hn, hr.len], cur, hr⟩
  unfold elems at h
  split at h
  · rename_i r z' n
    simp only [Option.bind_eq_some_iff] at h
    obtain ⟨R, hR, h⟩ := h
    split at h
    · rename_i hc
      obtain ⟨hz, hz', hb⟩ := hc
      split at h
      · rename_i hq
        unfold qsame at hq
        have hq : n = R.es.length := of_decide_eq_true hq
        cases h
        cases hx with
        | rw _ _ _ m g c hm hmz hn hcc ha =>
          obtain ⟨e, cur, hr⟩ := row (z' := z') hm R hR hz hz' hq
          obtain ⟨rfl, rfl⟩ := ha e
          refine ⟨_, _, by rw [hq], by omega, fun i cs hi => by rw [← hz]; exact (hr.els i cs hi).1, fun _ => ⟨m.g, 0, rfl, fun i j cs y hi hj => ?_⟩⟩
          obtain ⟨v, h1, h2, h3⟩ := (hr.els i cs hi).2 j y hj
          refine ⟨v, ?_, h2, h3⟩
          rw [cell_of_row w m.g _ cur R.e (0, 0) hr.heap, Nat.zero_add, ← hz]
          exact h1
      · cases h
    · cases h
  · rename_i r z' n off len
    simp only [Option.bind_eq_some_iff] at h
    obtain ⟨R, hR, h⟩ := h
    split at h
    · rename_i hc
      obtain ⟨hz, hz', hb⟩ := hc
      split at h
      · rename_i hq
        unfold qsame at hq
        have hq : n = R.es.length := of_decide_eq_true hq
        cases h
        cases hx with
        | sl _ _ _ _ _ m g o c hm hmz hn hl hcc ha =>
          obtain ⟨e, cur, hr⟩ := row (z' := z') hm R hR hz hz' hq
          obtain ⟨rfl, ho⟩ := ha e
          have hlen : (qpart R.es off len).length = len := by simp only [qpart, List.length_take, List.length_drop]; omega
          have hget : ∀ (i : Nat) cs, (qpart R.es off len)[i]? = some cs → R.es[off + i]? = some cs := by
            intro i cs hi
            simp only [qpart] at hi
            rw [List.getElem?_take] at hi
            split at hi
            · rwa [List.getElem?_drop] at hi
            · cases hi
          refine ⟨_, _, by rw [hlen], by omega, fun i cs hi => by rw [← hz]; exact (hr.els _ cs (hget i cs hi)).1, fun hne => ⟨m.g, o, rfl, fun i j cs y hi hj => ?_⟩⟩
          have hpos : 0 < len := by rw [← hlen]; exact List.length_pos_iff.2 hne
          have ho : o = off * z' := by
            rcases ho with h0 | h0
            · omega
            · exact h0
          obtain ⟨v, h1, h2, h3⟩ := (hr.els _ cs (hget i cs hi)).2 j y hj
          refine ⟨v, ?_, h2, h3⟩
          rw [cell_of_row w m.g _ cur R.e (0, 0) hr.heap, ho, hz', show off * z + (i * z + j) = (off + i) * z + j by rw [Nat.add_mul]; omega, ← hz]
          exact h1
      · cases h
    · cases h
  · rename_i wl z' es'
    split at h
    · rename_i hz
      cases h
      subst hz
      cases hx with
      | tl _ _ _ a c g o f ha hc hzz hcell hv =>
        exact ⟨a, c, rfl, hc, hzz, fun hne => ⟨g, o, (ha hne).1, fun i j cs y hi hj => ⟨_, (hcell i j cs y hi hj).1, hv i j cs y hi hj, (hcell i j cs y hi hj).2⟩⟩⟩
    · cases h
  · cases h
    cases hx
    exact ⟨none, 0, rfl, Nat.le_refl _, fun i cs hi => by simp at hi, fun h => absurd rfl h⟩
  · cases h
    cases hx
    exact ⟨_, 0, rfl, Nat.le_refl _, fun i cs hi => by simp at hi, fun h => absurd rfl h⟩
  · cases h

/-- The cells of a slice as a list. -/
theorem ElemsAt.news {z : Nat} {es : List (List V)} {a : Addr} (h : ElemsAt w M J z es (some a)) : ∃ news : List Value, news.length = es.length * z ∧ (∀ j v, news[j]? = some v → w.cell? (a.add j) = some v) ∧ (∀ v ∈ news, v.oneCell' = true) ∧
    ∀ (i j : Nat) (cs : List V) (y : V), es[i]? = some cs → cs[j]? = some y → ∃ v, news[i * z + j]? = some v ∧ VR w M J y v := by
  by_cases hne : es = []
  · subst hne
    exact ⟨[], by simp, by simp, by simp, by simp⟩
  · obtain ⟨g, o, ha, hc⟩ := h.at_ hne
    cases ha
    have key : ∀ k, k < es.length * z → ∃ v, w.cell? ⟨g, o + k, none⟩ = some v ∧ v.oneCell' = true := by
      intro k hk
      have hz : 0 < z := by
        rcases Nat.eq_zero_or_pos z with e | e
        · subst e; simp at hk
        · exact e
      have hi : k / z < es.length := Nat.div_lt_of_lt_mul (by rw [Nat.mul_comm]; exact hk)
      have hes := List.getElem?_eq_getElem hi
      have hl := h.sz _ _ hes
      have hj : k % z < (es[k / z]).length := by rw [hl]; exact Nat.mod_lt _ hz
      obtain ⟨v, h1, _, h3⟩ := hc _ _ _ _ hes (List.getElem?_eq_getElem hj)
      refine ⟨v, ?_, h3⟩
      rw [show k / z * z + k % z = k by rw [Nat.mul_comm]; exact Nat.div_add_mod k z] at h1
      exact h1
    have hget : ∀ j, j < es.length * z → ((List.range (es.length * z)).map fun k => (w.cell? ⟨g, o + k, none⟩).getD undef)[j]? = some ((w.cell? ⟨g, o + j, none⟩).getD undef) := by
      intro j hj
      rw [List.getElem?_map, List.getElem?_range hj]
      rfl
    refine ⟨(List.range (es.length * z)).map fun k => (w.cell? ⟨g, o + k, none⟩).getD undef, by simp, fun j v hv => ?_, fun v hv => ?_, fun i j cs y hi hj => ?_⟩
    · have hj : j < es.length * z := by have := (List.getElem?_eq_some_iff.1 hv).1; simpa using this
      rw [hget j hj] at hv
      obtain ⟨v', h1, _⟩ := key j hj
      rw [add_addr, h1]
      rw [h1] at hv
      exact hv
    · rw [List.mem_map] at hv
      obtain ⟨k, hk, rfl⟩ := hv
      obtain ⟨v', h1, h2⟩ := key k (by simpa using hk)
      rw [h1]
      exact h2
    · obtain ⟨v, h1, h2, _⟩ := hc i j cs y hi hj
      have hlt : i * z + j < es.length * z := by
        have hi' : i < es.length := (List.getElem?_eq_some_iff.1 hi).1
        have hj' : j < z := by rw [← h.sz i cs hi]; exact (List.getElem?_eq_some_iff.1 hj).1
        calc i * z + j < i * z + z := by omega
          _ = (i + 1) * z := by rw [Nat.add_mul, Nat.one_mul]
          _ ≤ es.length * z := Nat.mul_le_mul_right _ hi'
      exact ⟨v, by rw [hget _ hlt, h1]; rfl, h2⟩

theorem append_none {t e : TypeId} (ty : TypeId) {i : TypeInfo} (ht : P.underlying t = some (.slice e)) (hi : P.info? e = some i) {b : Option Addr} {n c : Nat} (hn : n ≤ c) (a : Option Addr) (c' : Nat) (w : World) :
    (Builtin.append_ #[t, t] ty #[.slice b n c, .slice a 0 c']).run P w = .ok (.slice b n c) w := by
  have hf : (Builtin.firstCells i.size 0 (.slice a 0 c')).run P w = .ok #[] w := by
    cases a with
    | none => rfl
    | some a =>
      have := run_firstCells_some (P := P) w i.size 0 a 0 c' [] (by simp) (by simp)
      simpa using this
  cases b with
  | none => simp [Builtin.append_, run_underlying ht, run_sizeOf hi, Builtin.lenOf, hn, hf]
  | some b => simp [Builtin.append_, run_underlying ht, run_sizeOf hi, Builtin.lenOf, hn, hf, storeCells]

/-- A row that grows, in its place or in a new one. -/
theorem HR.grow (hh : HR w M J H) {r : Nat} {m m' : RI} {R : Row} {cur cur' : Array Value} {es' : List (List V)} (hm : M[r]? = some m) (hr : RowR w M J m R cur) (hR : H[r]? = some R) (hb : R.bx = false)
    (hz : m'.z = m.z) (hlen : m'.len = es'.length) (hlt : m.len < m'.len) (hcap : m'.len ≤ m'.cap) (hmax : m'.cap ≤ maxLen) (hs : cur'.size = m'.cap * m'.z)
    (hg : m'.g = m.g ∨ w.heap.size ≤ m'.g) (hgl : m'.g < w'.heap.size) (hheap : w'.heap[m'.g]? = some (.cells cur' R.e (0, 0))) (hk : ∀ g, g < w.heap.size → g ≠ m.g → w'.heap[g]? = w.heap[g]?) (hsz : w.heap.size ≤ w'.heap.size)
    (ho : w'.os = w.os) (ht : w'.tape = w.tape) (hp : w'.output = w.output) (hel : Elems w M J R.z es' cur') :
    HR w' (M.set r m') J (H.set r { R with es := es' }) ∧ Goes w M w' (M.set r m') := by
  have hrl : r < M.length := (List.getElem?_eq_some_iff.1 hm).1
  have hmem := List.mem_of_getElem? hm
  have hgo : Goes w M w' (M.set r m') := by
    refine ⟨fun r2 m2 h2 => ?_, hsz, fun g hg' hM => hk g hg' fun e => hM m hmem e.symm, fun m2 h2 => ?_, ho, ht, hp⟩
    · rw [List.getElem?_set]
      by_cases e : r = r2
      · subst e
        rw [hm] at h2
        cases h2
        exact ⟨m', by simp [hrl], hz, .inr hlt⟩
      · exact ⟨m2, by simp [e, h2], rfl, .inl rfl⟩
    · rcases List.mem_or_eq_of_mem_set h2 with h | h
      · exact .inl ⟨m2, h, rfl⟩
      · subst h
        rcases hg with h | h
        · exact .inl ⟨m, hmem, h.symm⟩
        · exact .inr h
  refine ⟨⟨by simp [hh.len], ?_, ?_, ?_, fun g h => Nat.lt_of_lt_of_le (hh.jlt g h) hsz⟩, hgo⟩
  · intro r2 R2 h2
    rw [List.getElem?_set] at h2
    split at h2
    · rename_i e
      subst e
      split at h2
      · cases h2
        exact ⟨m', cur', by simp [hrl], hz.trans hr.z, hlen, hr.pos, hheap, hcap, hmax, hs, hel.goes hgo, fun h => by rw [hb] at h; cases h⟩
      · cases h2
    · rename_i hne
      obtain ⟨m2, cur2, hm2, hr2⟩ := hh.row r2 R2 h2
      have hg2 : m2.g ≠ m.g := fun e => hne (hh.inj r2 r m2 m hm2 hm e).symm
      exact ⟨m2, cur2, by simp [hne, hm2], hr2.z, hr2.len, hr2.pos, by rw [hk m2.g (hh.blk m2 (List.mem_of_getElem? hm2)).1 hg2]; exact hr2.heap, hr2.le, hr2.max, hr2.size, hr2.els.goes hgo, hr2.one⟩
  · have other : ∀ (r2 : Nat) m2, r ≠ r2 → M[r2]? = some m2 → m2.g ≠ m'.g := by
      intro r2 m2 hne h2 e
      rcases hg with h | h
      · exact hne (hh.inj r r2 m m2 hm h2 (by rw [e, h])) 
      · have := (hh.blk m2 (List.mem_of_getElem? h2)).1
        omega
    intro r1 r2 m1 m2 h1 h2 e
    rw [List.getElem?_set] at h1 h2
    by_cases e1 : r = r1
    · by_cases e2 : r = r2
      · omega
      · simp only [e1, if_true] at h1
        rw [if_neg e2] at h2
        subst e1
        simp only [hrl, if_true] at h1
        cases h1
        exact absurd e.symm (other r2 m2 e2 h2)
    · by_cases e2 : r = r2
      · rw [if_neg e1] at h1
        subst e2
        simp only [if_true, hrl] at h2
        cases h2
        exact absurd e (other r1 m1 e1 h1)
      · rw [if_neg e1] at h1
        rw [if_neg e2] at h2
        exact hh.inj r1 r2 m1 m2 h1 h2 e
  · intro m2 h2
    rcases List.mem_or_eq_of_mem_set h2 with h | h
    · exact ⟨Nat.lt_of_lt_of_le (hh.blk m2 h).1 hsz, (hh.blk m2 h).2⟩
    · subst h
      refine ⟨hgl, ?_⟩
      rcases hg with h | h
      · rw [h]; exact (hh.blk m hmem).2
      · intro hj
        have := hh.jlt _ hj
        omega

end
end Go.Am

/- Append is sound. -/
namespace Go.Am
section
variable {P : Program} {T : Types} {w : World} {M : List RI} {J : Nat → Prop} {H : Heap}

def InList (w : World) (M : List RI) (J : Nat → Prop) (z : Nat) (es : List (List V)) (l : List Value) : Prop :=
  l.length = es.length * z ∧ ∀ (i : Nat) (c : List V), es[i]? = some c → c.length = z ∧ ∀ (j : Nat) (x : V), c[j]? = some x → ∃ v, l[i * z + j]? = some v ∧ VR w M J x v ∧ v.oneCell' = true

theorem InList.elems {z : Nat} {es xs : List (List V)} {l1 l2 l3 : List Value} {cur : Array Value} (h1 : InList w M J z es l1) (h2 : InList w M J z xs l2) (hc : cur.toList = l1 ++ (l2 ++ l3)) : Elems w M J z (es ++ xs) cur := by
  intro i c hi
  rw [List.getElem?_append] at hi
  have hcell : ∀ k, cur[k]? = (l1 ++ (l2 ++ l3))[k]? := fun k => by rw [← hc, Array.getElem?_toList]
  split at hi
  · rename_i hlt
    obtain ⟨k1, k2⟩ := h1.2 i c hi
    refine ⟨k1, fun j x hj => ?_⟩
    obtain ⟨v, a1, a2⟩ := k2 j x hj
    refine ⟨v, ?_, a2⟩
    rw [hcell, List.getElem?_append_left (List.getElem?_eq_some_iff.1 a1).1]
    exact a1
  · rename_i hge
    obtain ⟨k1, k2⟩ := h2.2 _ c hi
    refine ⟨k1, fun j x hj => ?_⟩
    obtain ⟨v, a1, a2⟩ := k2 j x hj
    refine ⟨v, ?_, a2⟩
    have hsum : i * z = es.length * z + (i - es.length) * z := by rw [← Nat.add_mul]; congr 1; omega
    rw [hcell, List.getElem?_append_right (by rw [h1.1, hsum]; omega), h1.1, hsum]
    rw [show es.length * z + (i - es.length) * z + j - es.length * z = (i - es.length) * z + j by omega]
    rw [List.getElem?_append_left (List.getElem?_eq_some_iff.1 a1).1]
    exact a1

theorem RowR.inList {m : RI} {R : Row} {cur : Array Value} (hr : RowR w M J m R cur) : InList w M J R.z R.es (cur.toList.take (R.es.length * R.z)) := by
  have hle : R.es.length * R.z ≤ cur.size := by
    rw [hr.size, hr.z, ← hr.len]
    exact Nat.mul_le_mul_right _ hr.le
  refine ⟨by rw [List.length_take, Array.length_toList]; omega, fun i c hi => ⟨(hr.els i c hi).1, fun j x hj => ?_⟩⟩
  obtain ⟨v, a1, a2⟩ := (hr.els i c hi).2 j x hj
  refine ⟨v, ?_, a2⟩
  have hi' : i < R.es.length := (List.getElem?_eq_some_iff.1 hi).1
  have hj' : j < R.z := by rw [← (hr.els i c hi).1]; exact (List.getElem?_eq_some_iff.1 hj).1
  have : i * R.z + j < R.es.length * R.z := by
    calc i * R.z + j < i * R.z + R.z := by omega
      _ = (i + 1) * R.z := by rw [Nat.add_mul, Nat.one_mul]
      _ ≤ R.es.length * R.z := Nat.mul_le_mul_right _ hi'
  rw [List.getElem?_take_of_lt this, Array.getElem?_toList]
  exact a1

theorem heap_da (w : World) (a b : Array Value) (e : TypeId) : (w.drew.alloc (.cells (a ++ b) e)).heap = w.heap.push (.cells (a.toList ++ b.toList).toArray e) := by
  show w.heap.push _ = _
  congr 2
  apply Array.ext'
  simp

theorem append_sound (hT : TypesOk P T) (hh : HR w M J H) {t e z by_ : Nat} {ty : TypeId} {zero : List V} {s x v : V} {us ux : Value} {xs : List (List V)} {H' : Heap} (he : elemT T t = some e) (hz : sz T e = some z) (hby : bytesT T e = some by_)
    (hzero : zeroT T e = some zero) (hzl : zero.length = z) (hxs : elems H z x = some xs) (h : appendV e z by_ s xs H = some (v, H')) (hs : VR w M J s us) (hx : VR w M J x ux) :
    ∃ u w' M', (Builtin.append_ #[t, t] ty #[us, ux]).run P w = .ok u w' ∧ VR w' M' J v u ∧ HR w' M' J H' ∧ Goes w M w' M' := by
  have hu := elemT_spec hT he
  obtain ⟨i, zv, hi, hzv, hzeq⟩ := zeroT_spec hT hzero
  obtain ⟨i2, hi2, hiz⟩ := sz_spec hT hz
  obtain ⟨i3, hi3, hib⟩ := bytesT_spec hT hby
  rw [hi] at hi2 hi3
  cases hi2
  cases hi3
  have hzs : zv.cells.size = z := by rw [← hzl, hzeq]; simp
  obtain ⟨ax, cx, rfl, hcx, hat⟩ := elems_spec hh hxs hx
  unfold appendV at h
  split at h
  · rename_i hpos
    split at h
    · rename_i hnil
      have hx0 : xs = [] := by unfold qnil at hnil; simpa using hnil
      subst hx0
      have fin : ∀ b n c, us = .slice b n c → n ≤ c → v = s → H' = H → ∃ u w' M', (Builtin.append_ #[t, t] ty #[us, .slice ax ([] : List (List V)).length cx]).run P w = .ok u w' ∧ VR w' M' J v u ∧ HR w' M' J H' ∧ Goes w M w' M' := by
        rintro b n c rfl hn rfl rfl
        exact ⟨_, w, M, append_none ty hu hi hn ax cx w, hs, hh, Goes.refl w M⟩
      split at h
      · cases h; cases hs; exact fin _ _ _ rfl (Nat.le_refl _) rfl rfl
      · cases h; cases hs; exact fin _ _ _ rfl (Nat.le_refl _) rfl rfl
      · cases h
        cases hs with
        | rw r z n m g c hm hmz hn hc ha => exact fin _ _ _ rfl hc rfl rfl
      · cases h
        cases hs with
        | sl r z n off len m g o c hm hmz hn hl hc ha => exact fin _ _ _ rfl hc rfl rfl
      · cases h
        cases hs with
        | tl wl z es a c g o f ha hc hzz hcell hv => exact fin _ _ _ rfl hc rfl rfl
      · cases h
    · rename_i hnil
      have hne : xs ≠ [] := by intro e; subst e; simp [qnil] at hnil
      obtain ⟨g0, o0, rfl, _⟩ := hat.at_ hne
      obtain ⟨news, n1, n2, n3, n4⟩ := hat.news
      have hnews : InList w M J z xs news := ⟨n1, fun i c hi => ⟨hat.sz i c hi, fun j x hj => let ⟨v, a1, a2⟩ := n4 i j c x hi hj; ⟨v, a1, a2, n3 v (List.mem_of_getElem? a1)⟩⟩⟩
      have hk : 0 < xs.length := List.length_pos_iff.2 hne
      have nil0 : InList w M J z [] [] := ⟨by simp, by simp⟩
      have hzc : ∀ n, (Builtin.zeroCells zv.cells n).size = n * z := by intro n; rw [size_zeroCells, hzs]
      have fresh : qroom (qlen xs) by_ = true → ∀ (cap : Nat) (w' : World) (l3 : List Value), xs.length ≤ cap → cap ≤ maxLen → l3.length = (cap - xs.length) * z → w'.heap = w.heap.push (.cells (news ++ l3).toArray e) → w'.os = w.os → w'.tape = w.tape → w'.output = w.output →
          VR w' (M ++ [⟨w.heap.size, z, xs.length, cap⟩]) J (.rw H.length z (qlen xs)) (.slice (some ⟨w.heap.size, 0, none⟩) xs.length cap) ∧ HR w' (M ++ [⟨w.heap.size, z, xs.length, cap⟩]) J (newRowH e z false xs H) ∧ Goes w M w' (M ++ [⟨w.heap.size, z, xs.length, cap⟩]) := by
        intro _ cap w' l3 hcap hmax hl3 hheap ho ht hp
        have hsum : xs.length * z + (cap - xs.length) * z = cap * z := by rw [← Nat.add_mul]; congr 1; omega
        obtain ⟨k1, k2⟩ := HR.push (R := { e := e, z := z, bx := false, es := xs }) (cur := (news ++ l3).toArray) hh hheap ho ht hp cap hpos hcap hmax (by simp [n1, hl3, hsum])
          (by have := nil0.elems hnews (l3 := l3) (cur := (news ++ l3).toArray) (by simp); simpa using this) (by simp)
        exact ⟨.rw H.length z (qlen xs) ⟨w.heap.size, z, xs.length, cap⟩ _ _ (by rw [hh.len]; simp) rfl (Nat.le_refl _) hcap fun _ => ⟨rfl, rfl⟩, k1, k2⟩
      have room : ∀ n, qroom n by_ = true → n ≤ 9223372036854775807 ∧ n * by_ ≤ 140737488355328 := fun n h => by unfold qroom at h; exact of_decide_eq_true h
      split at h
      · split at h
        · rename_i hr
          cases h
          cases hs
          obtain ⟨r1, r2⟩ := room _ hr
          simp only [qlen] at r1 r2
          have hrun := run_append_nil (P := P) w t ty e i zv hu hi hzv ⟨g0, o0, none⟩ xs.length cx news (by rw [hiz]; exact n1) n2 hk (by omega) (by rw [hib]; omega)
          have hge := grownCap_ge w xs.length 0 e
          have hmx := grownCap_le_maxLen w xs.length 0 e (by simp only [maxLen]; omega)
          obtain ⟨f1, f2, f3⟩ := fresh hr (grownCap w xs.length 0 e) (w.drew.alloc (.cells (news.toArray ++ Builtin.zeroCells zv.cells (grownCap w xs.length 0 e - xs.length)) e)) (Builtin.zeroCells zv.cells (grownCap w xs.length 0 e - xs.length)).toList hge hmx (by simp [hzc])
            (heap_da w _ _ e) rfl rfl rfl
          exact ⟨_, _, _, hrun, f1, f2, f3⟩
        · cases h
      · split at h
        · rename_i hr
          cases h
          cases hs with
          | zs a =>
            obtain ⟨r1, r2⟩ := room _ hr
            simp only [qlen] at r1 r2
            have hrun := run_append_grow (P := P) w t ty e i zv hu hi hzv a 0 0 [] (by simp) (by simp) ⟨g0, o0, none⟩ xs.length cx news (by rw [hiz]; exact n1) n2 (by omega) (by omega) (by rw [hib]; exact growslice_fits (by omega) (by rw [Nat.zero_add]; omega))
            simp only [Nat.zero_add] at hrun
            have hge := grownCap_ge w xs.length 0 e
            have hmx := grownCap_le_maxLen w xs.length 0 e (by simp only [maxLen]; omega)
            obtain ⟨f1, f2, f3⟩ := fresh hr (grownCap w xs.length 0 e) (w.drew.alloc (.cells (([] : List Value).toArray ++ news.toArray ++ Builtin.zeroCells zv.cells (grownCap w xs.length 0 e - xs.length)) e)) (Builtin.zeroCells zv.cells (grownCap w xs.length 0 e - xs.length)).toList hge hmx (by simp [hzc])
              (by rw [heap_da]; simp) rfl rfl rfl
            exact ⟨_, _, _, hrun, f1, f2, f3⟩
        · cases h
      · rename_i r z' n
        simp only [Option.bind_eq_some_iff] at h
        obtain ⟨R, hR, h⟩ := h
        split at h
        · rename_i hc
          obtain ⟨hRe, hRz, hz', hbx⟩ := hc
          split at h
          · rename_i hq
            unfold qsame at hq
            have hq : n = R.es.length := of_decide_eq_true hq
            split at h
            · rename_i hroom
              cases h
              obtain ⟨r1, r2⟩ := room _ hroom
              simp only [qlen, qadd] at r1 r2
              obtain ⟨m, cur, hm, hr⟩ := hh.row r R hR
              cases hs with
              | rw _ _ _ m2 g c hm2 hmz hn hcc ha =>
                rw [hm] at hm2
                cases hm2
                have hnm : n = m.len := by rw [hq, hr.len]
                obtain ⟨rfl, rfl⟩ := ha hnm
                have hmem := List.mem_of_getElem? hm
                have hblk := (hh.blk m hmem).1
                have hol := hr.inList
                rw [hRz] at hol
                have hsz : cur.size = m.cap * z := by rw [hr.size, hmz, hz']
                have hle : R.es.length * z ≤ cur.size := by rw [hsz, ← hr.len]; exact Nat.mul_le_mul_right _ hr.le
                have hlen' : (qapp R.es xs).length = n + xs.length := by simp [qapp, hq]
                by_cases hfit : n + xs.length ≤ m.cap
                · have hfit' : n * i.size + news.length ≤ cur.size := by rw [n1, hiz, hsz, ← Nat.add_mul]; exact Nat.mul_le_mul_right _ hfit
                  have hrun := run_append_room (P := P) w t ty e i hu hi m.g n m.cap cur (by rw [← hRe]; exact hr.heap) ⟨g0, o0, none⟩ xs.length cx news (by rw [hiz]; exact n1) n2 n3 hfit hfit'
                  rw [hiz, hq] at hrun
                  obtain ⟨k1, k2⟩ := HR.grow (w' := w.setRow m.g (cur.toList.take (R.es.length * z) ++ news ++ cur.toList.drop (R.es.length * z + news.length)).toArray) (m' := ⟨m.g, m.z, R.es.length + xs.length, m.cap⟩) (es' := qapp R.es xs)
                    (cur' := (cur.toList.take (R.es.length * z) ++ news ++ cur.toList.drop (R.es.length * z + news.length)).toArray) hh hm hr hR hbx rfl (by simp [qapp]) (by show m.len < R.es.length + xs.length; rw [hr.len]; omega) (by rw [← hq]; exact hfit) hr.max
                    (by rw [hq, hiz] at hfit'; rw [← hr.size]; simp only [List.size_toArray, List.length_append, List.length_take, List.length_drop, Array.length_toList]; omega) (.inl rfl) (by simpa using hblk) (setRow_heap w m.g cur _ R.e (0, 0) hr.heap) (fun g _ hg => setRow_other w m.g g _ hg) (by simp) rfl rfl rfl
                    (by rw [hRz]; exact hol.elems hnews (l3 := cur.toList.drop (R.es.length * z + news.length)) (by simp))
                  refine ⟨_, _, _, by rw [hq]; exact hrun, ?_, k1, k2⟩
                  rw [show qlen (qapp R.es xs) = R.es.length + xs.length by simp [qlen, qapp]]
                  exact .rw r z _ ⟨m.g, m.z, R.es.length + xs.length, m.cap⟩ _ _ (by simp [(List.getElem?_eq_some_iff.1 hm).1]) (hmz.trans hz') (Nat.le_refl _) (by rw [← hq]; exact hfit) fun _ => ⟨rfl, rfl⟩
                · have hrun := run_append_grow (P := P) w t ty e i zv hu hi hzv ⟨m.g, 0, none⟩ n m.cap (cur.toList.take (R.es.length * z)) (by rw [hiz, hol.1, hq]) (fun j v hv => by
                    rw [add_addr, cell_of_row w m.g _ cur R.e (0, 0) hr.heap, Nat.zero_add, ← Array.getElem?_toList]
                    rw [List.getElem?_take] at hv
                    split at hv
                    · exact hv
                    · cases hv) ⟨g0, o0, none⟩ xs.length cx news (by rw [hiz]; exact n1) n2 (by omega) (by omega) (by rw [hib]; exact growslice_fits (by omega) (by rw [hq]; exact r2))
                  rw [hq] at hrun
                  have hge := grownCap_ge w (R.es.length + xs.length) m.cap e
                  have hmx := grownCap_le_maxLen w (R.es.length + xs.length) m.cap e (by simp only [maxLen]; omega)
                  generalize grownCap w (R.es.length + xs.length) m.cap e = cap' at hrun hge hmx
                  have hheap := heap_da w ((cur.toList.take (R.es.length * z)).toArray ++ news.toArray) (Builtin.zeroCells zv.cells (cap' - (R.es.length + xs.length))) e
                  have hsum : R.es.length * z + xs.length * z + (cap' - (R.es.length + xs.length)) * z = cap' * z := by rw [← Nat.add_mul, ← Nat.add_mul]; congr 1; omega
                  obtain ⟨k1, k2⟩ := HR.grow (w' := w.drew.alloc (.cells ((cur.toList.take (R.es.length * z)).toArray ++ news.toArray ++ Builtin.zeroCells zv.cells (cap' - (R.es.length + xs.length))) e)) (m' := ⟨w.heap.size, m.z, R.es.length + xs.length, cap'⟩) (es' := qapp R.es xs)
                    (cur' := (((cur.toList.take (R.es.length * z)).toArray ++ news.toArray).toList ++ (Builtin.zeroCells zv.cells (cap' - (R.es.length + xs.length))).toList).toArray) hh hm hr hR hbx rfl (by simp [qapp]) (by show m.len < R.es.length + xs.length; rw [hr.len]; omega) hge hmx
                    (by
                      show _ = cap' * m.z
                      rw [hmz, hz', ← hsum]
                      have := hol.1
                      simp only [List.size_toArray, List.length_append, Array.length_toList, Array.size_append, hzc, n1]
                      omega) (.inr (Nat.le_refl _)) (by rw [hheap]; simp) (by rw [hheap, hRe]; simp) (fun g hg _ => by rw [hheap, Array.getElem?_push]; simp [Nat.ne_of_lt hg]) (by rw [hheap]; simp) rfl rfl rfl
                    (by rw [hRz]; exact hol.elems hnews (l3 := (Builtin.zeroCells zv.cells (cap' - (R.es.length + xs.length))).toList) (by simp))
                  refine ⟨_, _, _, by rw [hq]; exact hrun, ?_, k1, k2⟩
                  rw [show qlen (qapp R.es xs) = R.es.length + xs.length by simp [qlen, qapp]]
                  exact .rw r z _ ⟨w.heap.size, m.z, R.es.length + xs.length, cap'⟩ _ _ (by simp [(List.getElem?_eq_some_iff.1 hm).1]) (hmz.trans hz') (Nat.le_refl _) hge fun _ => ⟨rfl, rfl⟩
            · cases h
          · cases h
        · cases h
      · cases h
  · cases h

end
end Go.Am

/- The operations that make memory are sound: made slices. -/
namespace Go.Am
section
variable {P : Program} {T : Types} {w : World} {M : List RI} {J : Nat → Prop} {H : Heap}

theorem madeCells_get (vs : Array Value) (n z : Nat) (hz : vs.size = z) {i j : Nat} (hi : i < n) (hj : j < z) : (madeCells vs (n * z))[i * z + j]? = vs[j]? := by
  have hlt : i * z + j < n * z := by
    calc i * z + j < i * z + z := by omega
      _ = (i + 1) * z := by rw [Nat.add_mul, Nat.one_mul]
      _ ≤ n * z := Nat.mul_le_mul_right _ hi
  have hm : (i * z + j) % z = j := by rw [Nat.mul_comm, Nat.mul_add_mod, Nat.mod_eq_of_lt hj]
  have hj' : j < vs.size := by omega
  simp only [madeCells, Array.getElem?_map, Array.getElem?_range, hlt, if_true, Option.map_some, hz, hm]
  rw [getElem!_pos vs j hj', Array.getElem?_eq_getElem hj']

theorem make_sound (hT : TypesOk P T) (hh : HR w M J H) {t e z by_ : Nat} {zero : List V} {l c v : V} {ul uc : Value} {H' : Heap} (he : elemT T t = some e) (hz : sz T e = some z) (hby : bytesT T e = some by_)
    (hzero : zeroT T e = some zero) (h : makeSliceV e z by_ zero l c H = some (v, H')) (hl : VR w M J l ul) (hc : VR w M J c uc) :
    ∃ u w' M', (Instr.makeSlice t ul uc).run P w = .ok u w' ∧ VR w' M' J v u ∧ HR w' M' J H' ∧ Goes w M w' M' := by
  have hu := elemT_spec hT he
  obtain ⟨i, zv, hi, hzv, hzeq⟩ := zeroT_spec hT hzero
  obtain ⟨i2, hi2, hiz⟩ := sz_spec hT hz
  obtain ⟨i3, hi3, hib⟩ := bytesT_spec hT hby
  rw [hi] at hi2 hi3
  cases hi2
  cases hi3
  unfold makeSliceV at h
  split at h
  · rename_i n m
    have := hl.i_inv
    subst this
    have := hc.i_inv
    subst this
    split at h
    · rename_i hcond
      obtain ⟨hzl, hpos, hst⟩ := hcond
      split at h
      · rename_i hok
        unfold qmkOk at hok
        have hok := of_decide_eq_true hok
        obtain ⟨o1, o2, o3⟩ := hok
        split at h
        · rename_i hq
          have hmn : m = n := by simpa [qtest] using hq
          subst hmn
          cases h
          have hzs : zv.cells.size = z := by rw [← hzl, hzeq]; simp
          obtain ⟨N, rfl⟩ : ∃ N : Nat, m = N := ⟨m.toNat, by omega⟩
          simp only [Int.toNat_natCast] at o3
          have hbn : (by_ : Int) * (N : Int) = ((N * by_ : Nat) : Int) := by
            rw [Nat.mul_comm]
            simp
          have hrun := run_make (P := P) w t e i zv hu hi hzv .i64 .i64 N N o1 (Int.le_refl _) (by rw [hib, hbn]; omega) o2
          simp only [Int.toNat_natCast, hiz] at hrun
          have hlen : (qrep (qtoN (N : Int)) zero).length = N := by simp [qrep, qtoN]
          have hget : ∀ (k : Nat) cs, (qrep (qtoN (N : Int)) zero)[k]? = some cs → k < N ∧ cs = zero := by
            intro k cs hk
            have h1 := (List.getElem?_eq_some_iff.1 hk).1
            rw [hlen] at h1
            refine ⟨h1, ?_⟩
            simp only [qrep, qtoN, Int.toNat_natCast, List.getElem?_replicate, h1, if_true, Option.some.injEq] at hk
            exact hk.symm
          obtain ⟨k1, k2⟩ := HR.push (w' := w.alloc (.cells (madeCells zv.cells (N * z)) e)) (R := { e := e, z := z, bx := false, es := qrep (qtoN (N : Int)) zero }) (cur := madeCells zv.cells (N * z)) hh rfl rfl rfl rfl N hpos (by rw [hlen]; exact Nat.le_refl _) (by simp only [maxLen]; omega) (size_madeCells _ _)
            (by
              intro k cs hk
              obtain ⟨h1, rfl⟩ := hget k cs hk
              refine ⟨hzl, fun j x hj => ?_⟩
              have hjl : j < z := by rw [← hzl]; exact (List.getElem?_eq_some_iff.1 hj).1
              have hjc : j < zv.cells.size := by omega
              have hcs := zero_Cs (w := w) (M := M) (J := J) zv.cells.toList
              rw [hzeq] at hj
              have hv : zv.cells.toList[j]? = some zv.cells[j] := by simp
              have hvr := hcs.2 j x _ hj hv
              refine ⟨_, by rw [madeCells_get _ _ _ hzs h1 hjl]; exact Array.getElem?_eq_getElem hjc, hvr, storable_one hvr ?_⟩
              rw [hzeq] at hst
              exact List.all_eq_true.1 hst _ (List.mem_of_getElem? hj)) (by simp)
          refine ⟨_, _, _, hrun, ?_, k1, k2⟩
          have := VR.rw (w := w.alloc (.cells (madeCells zv.cells (N * z)) e)) (J := J) H.length z N ⟨w.heap.size, z, (qrep (qtoN (N : Int)) zero).length, N⟩ w.heap.size N (M := M ++ [⟨w.heap.size, z, (qrep (qtoN (N : Int)) zero).length, N⟩]) (by rw [hh.len]; simp) rfl (by rw [hlen]; exact Nat.le_refl _) (Nat.le_refl _) fun _ => ⟨rfl, rfl⟩
          rw [show qlen (qrep (qtoN (N : Int)) zero) = N from hlen]
          exact this
        · cases h
      · cases h
    · cases h
  · cases h

end
end Go.Am

/- Strings out of bytes and bytes out of strings. -/
namespace Go.Am
section
variable {P : Program} {T : Types} {w : World} {M : List RI} {J : Nat → Prop} {H : Heap}

theorem bytesOf_spec : ∀ (es : List (List V)) (l : List UInt8), bytesOf es = some l → ∃ ns : List Int, es = ns.map (fun n => [.i .u8 n]) ∧ l = ns.map fun n => UInt8.ofNat n.toNat
  | [], l, h => by cases h; exact ⟨[], rfl, rfl⟩
  | c :: es, l, h => by
    unfold bytesOf at h
    split at h
    · cases ‹_ :: _ = []›
    · rename_i he
      cases he
      simp only [Option.map_eq_some_iff] at h
      obtain ⟨l', hl', rfl⟩ := h
      obtain ⟨ns, rfl, rfl⟩ := bytesOf_spec _ l' hl'
      exact ⟨_ :: ns, rfl, rfl⟩
    · cases h

theorem foldl_push (ns : List Int) : ∀ s : ByteArray, ns.foldl (fun r n => r.push (UInt8.ofNat n.toNat)) s = ⟨s.data ++ (ns.map fun n => UInt8.ofNat n.toNat).toArray⟩ := by
  induction ns with
  | nil => intro s; simp
  | cons n ns ih =>
    intro s
    rw [List.foldl_cons, ih]
    congr 1
    simp [ByteArray.push]

theorem b2s_sound (hT : TypesOk P T) (hh : HR w M J H) {src dst : Nat} {x : V} {u : Value} {es : List (List V)} {s : ByteArray} (hs : isBytesT T src = true) (hd : isStringT T dst = true) (he : elems H 1 x = some es) (h : qsof es = some s) (hx : VR w M J x u) :
    (convert src dst u).run P w = .ok (.string s) w := by
  obtain ⟨e, h1, h2⟩ := isBytesT_spec hT hs
  have h3 := isStringT_spec hT hd
  obtain ⟨a, c, rfl, hc, hat⟩ := elems_spec hh he hx
  rw [run_convert_bytes_string w src dst e a es.length c h1 h2 h3]
  simp only [qsof, Option.map_eq_some_iff] at h
  obtain ⟨l, hl, rfl⟩ := h
  obtain ⟨ns, rfl, rfl⟩ := bytesOf_spec _ _ hl
  by_cases hne : ns.map (fun n => [V.i .u8 n]) = []
  · have : ns = [] := by simpa using hne
    subst this
    cases a with
    | none => rfl
    | some a =>
      have := run_bytesToString (P := P) w a 0 c [] (by simp [loadCells, loadCellsFrom])
      exact this
  · obtain ⟨g, o, rfl, hcell⟩ := hat.at_ hne
    have hload := run_loadCells_list (P := P) w ⟨g, o, none⟩ (ns.map (Value.int .u8)) (fun j v hv => by
      rw [List.getElem?_map, Option.map_eq_some_iff] at hv
      obtain ⟨n, hn, rfl⟩ := hv
      obtain ⟨v, k1, k2, _⟩ := hcell j 0 [.i .u8 n] (.i .u8 n) (by simp [hn]) rfl
      have := k2.i_inv
      subst this
      rw [add_addr]
      simpa using k1)
    have := run_bytesToString (P := P) w ⟨g, o, none⟩ (ns.map (fun n => [V.i .u8 n])).length c ns (by simpa using hload)
    rw [this, foldl_push]
    simp

theorem s2b_sound (hT : TypesOk P T) (hh : HR w M J H) {src dst : Nat} {s : ByteArray} (hs : isStringT T src = true) (hd : isBytesT T dst = true) (hr : qroom (qslen s) 1 = true) :
    ∃ u w', (convert src dst (.string s)).run P w = .ok u w' ∧ VR w' M J (.tl false 1 (qsbytes s)) u ∧ HR w' M J H ∧ Goes w M w' M := by
  obtain ⟨e, h1, h2⟩ := isBytesT_spec hT hd
  have h3 := isStringT_spec hT hs
  unfold qroom at hr
  have hr := of_decide_eq_true hr
  simp only [qslen] at hr
  let cap := grownCap w s.size 0 e
  let cells : Array Value := (s.data.map fun b => Value.int .u8 b.toNat) ++ Array.replicate (cap - s.size) (.int .u8 0)
  let w1 : World := { w with drawn := w.drawn + 1, heap := w.heap.push (.cells cells e) }
  let w2 : World := w1.freeze { block := w.heap.size, off := cells.size } 1
  have hrun : (convert src dst (.string s)).run P w = .ok (.slice (some ⟨w.heap.size, 0, none⟩) s.size cap) w2 := by
    have hmk : (markStringish ⟨w.heap.size, 0, none⟩).run P (w.drew.alloc (.cells cells e)) = .ok () w2 := by
      have hg := heap_alloc_new w.drew (.cells cells e)
      have hg' : (w.drew.alloc (.cells cells e)).heap[w.heap.size]? = some (.cells cells e (0, 0)) := hg
      simp only [markStringish, Sem.run_bind, run_shape, World.shape?, hg', Result.andThen_ok]
      rfl
    have : (Conv.stringToBytes e s).run P w = .ok (.slice (some ⟨w.heap.size, 0, none⟩) s.size cap) w2 := by
      have hnf : (Question.appendCap s.size 0 e).forced = false := rfl
      simp only [Conv.stringToBytes, Sem.run_bind, run_choose, hnf, Bool.false_eq_true, if_false, Result.andThen_ok, newRow, run_newObj, Sem.run_pure]
      have hmk' := hmk
      simp only [World.alloc, World.drew] at hmk'
      exact (congrArg (fun r => r.andThen fun _ w' => Result.ok (Value.slice (some ⟨w.heap.size, 0, none⟩) s.size cap) w') hmk')
    simp [convert, run_underlying h3, run_underlying h1, run_underlying h2, this]
  have hold : ∀ g, g < w.heap.size → w2.heap[g]? = w.heap[g]? := by
    intro g hg
    simp only [w2, w1, World.freeze]
    rw [if_neg (by decide)]
    simp only [Array.getElem?_modify, Array.getElem?_push, Nat.ne_of_lt hg, if_false]
    rw [if_neg (by omega)]
  have hsz : w2.heap.size = w.heap.size + 1 := by simp [w2, w1, World.freeze]
  have hgo : Goes w M w2 M := ⟨fun _ m h => ⟨m, h, rfl, .inl rfl⟩, by omega, fun g hg _ => hold g hg, fun m hm => .inl ⟨m, hm, rfl⟩, rfl, rfl, rfl⟩
  refine ⟨_, w2, hrun, ?_, hh.goes hgo fun m hm => hold _ (hh.blk m hm).1, hgo⟩
  have hlen : (qsbytes s).length = s.size := by simp [qsbytes]
  have hge : s.size ≤ cap := grownCap_ge w s.size 0 e
  have key := VR.tl (w := w2) (M := M) (J := J) false 1 (qsbytes s) (some ⟨w.heap.size, 0, none⟩) cap w.heap.size 0 (fun i _ => (.int .u8 (((s.data[i]?).getD 0).toNat : Int)))
    (fun _ => ⟨rfl, ⟨fun m hm e => by have := (hh.blk m hm).1; omega, fun _ hj => by have := hh.jlt _ hj; omega⟩, by omega⟩) (by rw [hlen]; exact hge) ?_ ?_ ?_
  · rw [hlen] at key
    exact key
  · intro i cs hi
    simp only [qsbytes, List.getElem?_map, Option.map_eq_some_iff] at hi
    obtain ⟨b, _, rfl⟩ := hi
    rfl
  · intro i j cs x hi hj
    simp only [qsbytes, List.getElem?_map, Option.map_eq_some_iff] at hi
    obtain ⟨b, hb, rfl⟩ := hi
    have hj0 : j = 0 := by have := (List.getElem?_eq_some_iff.1 hj).1; simp at this; exact this
    subst hj0
    refine ⟨?_, rfl⟩
    have hi' : i < s.data.size := by have := (List.getElem?_eq_some_iff.1 hb).1; simpa using this
    have hcell : w2.heap[w.heap.size]? = some (.cells cells e (cells.size, cells.size + 1)) := by
      simp [w2, w1, World.freeze, Array.getElem_modify]
    simp only [World.cell?, hcell]
    simp only [cells, Nat.zero_add, Nat.mul_one, Nat.add_zero, Option.isSome_none, Bool.false_eq_true, if_false]
    rw [Array.getElem?_append_left (by simpa using hi')]
    simp [Array.getElem?_eq_getElem hi']
  · intro i j cs x hi hj
    simp only [qsbytes, List.getElem?_map, Option.map_eq_some_iff] at hi
    obtain ⟨b, hb, rfl⟩ := hi
    have hj0 : j = 0 := by have := (List.getElem?_eq_some_iff.1 hj).1; simp at this; exact this
    subst hj0
    simp at hj
    subst hj
    have hi' : i < s.data.size := by have := (List.getElem?_eq_some_iff.1 hb).1; simpa using this
    have : (s.data[i]?).getD 0 = b := by
      rw [Array.getElem?_toList] at hb
      rw [hb]
      rfl
    rw [this]
    exact .i _ _

end
end Go.Am

/- Slices built from parts. -/
namespace Go.Am
section
variable {P : Program} {T : Types} {w : World} {M : List RI} {J : Nat → Prop} {H : Heap}

theorem flatten_get {α : Type} {z : Nat} : ∀ (es : List (List α)), (∀ c ∈ es, c.length = z) → ∀ (i j : Nat) (c : List α), es[i]? = some c → j < z → es.flatten[i * z + j]? = c[j]?
  | [], _, i, j, c, h, _ => by simp at h
  | e :: es, hl, 0, j, c, h, hj => by
    simp at h
    subst h
    have := hl e (by simp)
    simp only [Nat.zero_mul, Nat.zero_add, List.flatten_cons]
    rw [List.getElem?_append_left (by omega)]
  | e :: es, hl, i + 1, j, c, h, hj => by
    have h1 := hl e (by simp)
    simp only [List.flatten_cons]
    rw [List.getElem?_append_right (by rw [Nat.add_mul]; omega), h1]
    have := flatten_get es (fun c hc => hl c (by simp [hc])) i j c (by simpa using h) hj
    rw [show (i + 1) * z + j - z = i * z + j by rw [Nat.add_mul]; omega]
    exact this

theorem flatten_len {α : Type} {z : Nat} : ∀ (es : List (List α)), (∀ c ∈ es, c.length = z) → es.flatten.length = es.length * z
  | [], _ => by simp
  | e :: es, hl => by
    rw [List.flatten_cons, List.length_append, hl e (by simp), flatten_len es (fun c hc => hl c (by simp [hc])), List.length_cons, Nat.add_mul]
    omega

theorem flatten_set {α : Type} {z : Nat} : ∀ (es : List (List α)), (∀ c ∈ es, c.length = z) → ∀ (i : Nat) (c : List α), i < es.length → c.length = z → (es.set i c).flatten = es.flatten.take (i * z) ++ (c ++ es.flatten.drop (i * z + z))
  | [], _, i, c, h, _ => by simp at h
  | e :: es, hl, 0, c, _, hc => by
    have h1 := hl e (by simp)
    simp only [List.set_cons_zero, List.flatten_cons, Nat.zero_mul, List.take_zero, List.nil_append, Nat.zero_add]
    rw [List.drop_append_of_le_length (by omega), List.drop_eq_nil_of_le (by omega), List.nil_append]
  | e :: es, hl, i + 1, c, h, hc => by
    have h1 := hl e (by simp)
    have ih := flatten_set es (fun c hc => hl c (by simp [hc])) i c (by simpa using h) hc
    simp only [List.set_cons_succ, List.flatten_cons, ih]
    have e1 : (i + 1) * z = e.length + i * z := by rw [Nat.add_mul, h1]; omega
    have t1 : (e ++ es.flatten).take (e.length + i * z) = e ++ es.flatten.take (i * z) := by simp [List.take_append, List.take_of_length_le]
    have t2 : (e ++ es.flatten).drop (e.length + i * z + z) = es.flatten.drop (i * z + z) := by
      rw [Nat.add_assoc, List.drop_append, List.drop_eq_nil_of_le (by omega), Nat.add_sub_cancel_left, List.nil_append]
    rw [e1, t1, t2, List.append_assoc]

theorem fillEs_flat {z : Nat} (hz : 0 < z) : ∀ (parts : List (Nat × V)) (es r : List (List V)), (∀ c ∈ es, c.length = z) → fillEs z parts es = some r →
    fillCs (parts.map fun q => (q.1 * z, z, q.2)) es.flatten = some r.flatten ∧ (∀ c ∈ r, c.length = z) ∧ r.length = es.length
  | [], es, r, hl, h => by cases h; exact ⟨rfl, hl, rfl⟩
  | (i, v) :: rest, es, r, hl, h => by
    simp only [fillEs] at h
    split at h
    · rename_i hc
      obtain ⟨h1, h2, h3⟩ := hc
      have hl' : ∀ c ∈ es.set i (cellsV v), c.length = z := by
        intro c hc
        rcases List.mem_or_eq_of_mem_set hc with h | h
        · exact hl c h
        · rw [h]; exact h1
      obtain ⟨k1, k2, k3⟩ := fillEs_flat hz rest _ r hl' h
      refine ⟨?_, k2, by simpa using k3⟩
      have hfit : i * z + z ≤ es.flatten.length := by
        rw [flatten_len es hl]
        calc i * z + z = (i + 1) * z := by rw [Nat.add_mul, Nat.one_mul]
          _ ≤ es.length * z := Nat.mul_le_mul_right _ h2
      simp only [List.map_cons, fillCs]
      rw [if_pos ⟨h1, hfit, okTop_of h3⟩, ← flatten_set es hl i (cellsV v) h2 h1]
      exact k1
    · cases h

theorem fillEs_storable {z : Nat} : ∀ (parts : List (Nat × V)) (es r : List (List V)), (∀ c ∈ es, c.all storable = true) → fillEs z parts es = some r → ∀ c ∈ r, c.all storable = true
  | [], es, r, hl, h => by cases h; exact hl
  | (i, v) :: rest, es, r, hl, h => by
    simp only [fillEs] at h
    split at h
    · rename_i hc
      refine fillEs_storable rest _ r ?_ h
      intro c hc'
      rcases List.mem_or_eq_of_mem_set hc' with h | h
      · exact hl c h
      · rw [h]; exact hc.2.2
    · cases h

/-- A literal that nobody writes. -/
theorem lit_sound (hT : TypesOk P T) (hh : HR w M J H) {t e z len : Nat} {zero : List V} {v : V} {t' : List V} {a : Act} {ps : Array (Nat × Operand)} (he : elemT T t = some e) (hz : sz T e = some z)
    (hzero : zeroT T e = some zero) (h : litV z zero len ((ps.toList.map fun q => (q.1, rx q.2)).map fun q => (q.1, rv t' q.2)) = some v) (ht : TR w M J t' a) :
    ∃ u w', (Instr.buildSlice t len (ps.map fun (i, x) => (i, a.eval x))).run P w = .ok u w' ∧ VR w' M J v u ∧ HR w' M J H ∧ Goes w M w' M := by
  have hu := elemT_spec hT he
  obtain ⟨i, zv, hi, hzv, hzeq⟩ := zeroT_spec hT hzero
  obtain ⟨i2, hi2, hiz⟩ := sz_spec hT hz
  rw [hi] at hi2
  cases hi2
  unfold litV at h
  split at h
  · rename_i hcond
    obtain ⟨hzl, hpos, hl0, hbig, hst⟩ := hcond
    simp only [Option.map_eq_some_iff] at h
    obtain ⟨es, hes, rfl⟩ := h
    have hzs : zv.cells.size = z := by rw [← hzl, hzeq]; simp
    have hrep : ∀ c ∈ List.replicate len zero, c.length = z := fun c hc => by rw [(List.mem_replicate.1 hc).2]; exact hzl
    obtain ⟨f1, f2, f3⟩ := fillEs_flat hpos _ _ _ hrep hes
    have f4 := fillEs_storable _ _ _ (fun c hc => by rw [(List.mem_replicate.1 hc).2]; exact hst) hes
    have hinit : Cs w M J (List.replicate len zero).flatten (madeCells zv.cells (len * z)).toList := by
      refine ⟨by rw [Array.length_toList, size_madeCells, flatten_len _ hrep]; simp, fun k x u hx hu' => ?_⟩
      have hk : k < len * z := by
        have := (List.getElem?_eq_some_iff.1 hx).1
        rw [flatten_len _ hrep] at this
        simpa using this
      have hi' : k / z < len := Nat.div_lt_of_lt_mul (by rw [Nat.mul_comm]; exact hk)
      have hj' : k % z < z := Nat.mod_lt _ hpos
      have hkk : k / z * z + k % z = k := by rw [Nat.mul_comm]; exact Nat.div_add_mod k z
      have g1 := flatten_get (List.replicate len zero) hrep (k / z) (k % z) zero (by simp [List.getElem?_replicate, hi']) hj'
      have g2 := madeCells_get zv.cells len z hzs hi' hj'
      rw [hkk] at g1 g2
      rw [g1, hzeq] at hx
      rw [Array.getElem?_toList, g2, ← Array.getElem?_toList] at hu'
      exact (zero_Cs (w := w) (M := M) (J := J) zv.cells.toList).2 _ _ _ hx hu'
    obtain ⟨cells', hc, hcs⟩ := fill_spec (place := fun k => some (k * z, z)) _ (ps.map fun (i, x) => (i, a.eval x)).toList _ _ (madeCells zv.cells (len * z)) hinit f1 (by simp) (by
      intro n q q' hq hq'
      simp only [Array.toList_map, List.map_map, List.getElem?_map, Option.map_eq_some_iff] at hq hq'
      obtain ⟨p, hp, rfl⟩ := hq
      obtain ⟨p', hp', rfl⟩ := hq'
      rw [hp] at hp'
      cases hp'
      exact ⟨rfl, ht.rv _⟩)
    have hlen : es.length = len := by rw [f3]; simp
    have hsize : cells'.size = len * z := by have := hcs.1; rw [flatten_len es f2, hlen] at this; simpa using this
    have hone : ∀ v ∈ cells'.toList, ∀ (k : Nat) (x : V), es.flatten[k]? = some x → cells'.toList[k]? = some v → v.oneCell' = true := by
      intro v _ k x hx hv
      refine storable_one (hcs.2 k x v hx hv) ?_
      obtain ⟨c, hcm, hxc⟩ := List.mem_flatten.1 (List.mem_of_getElem? hx)
      exact List.all_eq_true.1 (f4 c hcm) x hxc
    have len0 : 0 < len * z := Nat.mul_pos hl0 hpos
    have hrun := run_buildSlice (P := P) w t e len (ps.map fun (i, x) => (i, a.eval x)) cells' i zv hu hi hzv (by rw [hiz]; simp; omega) (by rw [hiz]; omega) (by rw [hiz]; exact hc)
    have hgo : Goes w M (w.alloc (.cells cells' e)) M := .push0 rfl rfl rfl rfl
    refine ⟨_, _, hrun, ?_, hh.goes hgo (fun m hm => ?_), hgo⟩
    · have hget : ∀ (k j : Nat) (cs : List V) (x : V), es[k]? = some cs → cs[j]? = some x → ∃ u, cells'[k * z + j]? = some u ∧ VR w M J x u ∧ u.oneCell' = true := by
        intro k j cs x hk hj
        have hcl := f2 cs (List.mem_of_getElem? hk)
        have hjl : j < z := by rw [← hcl]; exact (List.getElem?_eq_some_iff.1 hj).1
        have hkl : k < len := by rw [← hlen]; exact (List.getElem?_eq_some_iff.1 hk).1
        have hlt : k * z + j < cells'.size := by
          rw [hsize]
          calc k * z + j < k * z + z := by omega
            _ = (k + 1) * z := by rw [Nat.add_mul, Nat.one_mul]
            _ ≤ len * z := Nat.mul_le_mul_right _ hkl
        have hfx : es.flatten[k * z + j]? = some x := by rw [flatten_get es f2 k j cs hk hjl]; exact hj
        have hv : cells'.toList[k * z + j]? = some cells'[k * z + j] := by simp [hlt]
        exact ⟨_, Array.getElem?_eq_getElem hlt, hcs.2 _ _ _ hfx hv, hone _ (List.mem_of_getElem? hv) _ _ hfx hv⟩
      have key := VR.tl (w := w.alloc (.cells cells' e)) (M := M) (J := J) false z es (some ⟨w.heap.size, 0, none⟩) len w.heap.size 0 (fun k j => (cells'[k * z + j]?).getD undef)
        (fun _ => ⟨rfl, ⟨fun m hm e => by have := (hh.blk m hm).1; omega, fun _ hj => by have := hh.jlt _ hj; omega⟩, hpos⟩) (by rw [hlen]; exact Nat.le_refl _) (fun k cs hk => f2 cs (List.mem_of_getElem? hk)) ?_ ?_
      · rw [hlen] at key
        exact key
      · intro k j cs x hk hj
        obtain ⟨u, h1, h2, h3⟩ := hget k j cs x hk hj
        simp only [h1, Option.getD_some]
        refine ⟨?_, h3⟩
        have hb : (w.alloc (.cells cells' e)).heap[w.heap.size]? = some (.cells cells' e (0, 0)) := by
          show (w.heap.push (.cells cells' e))[w.heap.size]? = _
          rw [Array.getElem?_push]
          simp
        rw [cell_of_row _ w.heap.size _ cells' e (0, 0) hb, Nat.zero_add]
        exact h1
      · intro k j cs x hk hj
        obtain ⟨u, h1, h2, h3⟩ := hget k j cs x hk hj
        simp only [h1, Option.getD_some]
        exact h2.goes hgo
    · have := (hh.blk m hm).1
      show (w.heap.push (.cells cells' e))[m.g]? = _
      rw [Array.getElem?_push]
      simp [Nat.ne_of_lt this]
  · cases h

/-- A literal with nothing in it. -/
theorem nul_sound (hT : TypesOk P T) (hh : HR w M J H) {t e z : Nat} {a : Act} (he : elemT T t = some e) (hz : sz T e = some z) :
    ∃ u w', (Instr.buildSlice t 0 ((#[] : Array (Nat × Operand)).map fun (i, x) => (i, a.eval x))).run P w = .ok u w' ∧ VR w' M J .zs u ∧ HR w' M J H ∧ Goes w M w' M := by
  have hu := elemT_spec hT he
  obtain ⟨i, hi, hiz⟩ := sz_spec hT hz
  have hgo : Goes w M (w.alloc (.cells #[] e)) M := .push0 rfl rfl rfl rfl
  refine ⟨.slice (some ⟨w.heap.size, 0, none⟩) 0 0, w.alloc (.cells #[] e), ?_, .zs _, hh.goes hgo (fun m hm => ?_), hgo⟩
  · simp [Instr.buildSlice, run_underlying hu, run_sizeOf hi, Instr.fill, newRow, Array.range_zero']
  · have := (hh.blk m hm).1
    show (w.heap.push (.cells #[] e))[m.g]? = _
    rw [Array.getElem?_push]
    simp [Nat.ne_of_lt this]

theorem buildS_sound (hT : TypesOk P T) (hh : HR w M J H) {t e z len : Nat} {zero : List V} {v : V} {t' : List V} {a : Act} {ps : Array (Nat × Operand)} {H' : Heap} (he : elemT T t = some e) (hz : sz T e = some z)
    (hzero : zeroT T e = some zero) (h : buildSliceV e z zero len ((ps.toList.map fun q => (q.1, rx q.2)).map fun q => (q.1, rv t' q.2)) H = some (v, H')) (ht : TR w M J t' a) :
    ∃ u w' M', (Instr.buildSlice t len (ps.map fun (i, x) => (i, a.eval x))).run P w = .ok u w' ∧ VR w' M' J v u ∧ HR w' M' J H' ∧ Goes w M w' M' := by
  have hu := elemT_spec hT he
  obtain ⟨i, zv, hi, hzv, hzeq⟩ := zeroT_spec hT hzero
  obtain ⟨i2, hi2, hiz⟩ := sz_spec hT hz
  rw [hi] at hi2
  cases hi2
  unfold buildSliceV at h
  split at h
  · rename_i hcond
    obtain ⟨hzl, hpos, hbig, hst⟩ := hcond
    simp only [Option.map_eq_some_iff, Prod.mk.injEq] at h
    obtain ⟨es, hes, rfl, rfl⟩ := h
    have hzs : zv.cells.size = z := by rw [← hzl, hzeq]; simp
    have hrep : ∀ c ∈ List.replicate len zero, c.length = z := fun c hc => by rw [(List.mem_replicate.1 hc).2]; exact hzl
    obtain ⟨f1, f2, f3⟩ := fillEs_flat hpos _ _ _ hrep hes
    have f4 := fillEs_storable _ _ _ (fun c hc => by rw [(List.mem_replicate.1 hc).2]; exact hst) hes
    have hinit : Cs w M J (List.replicate len zero).flatten (madeCells zv.cells (len * z)).toList := by
      refine ⟨by rw [Array.length_toList, size_madeCells, flatten_len _ hrep]; simp, fun k x u hx hu' => ?_⟩
      have hk : k < len * z := by
        have := (List.getElem?_eq_some_iff.1 hx).1
        rw [flatten_len _ hrep] at this
        simpa using this
      have hi' : k / z < len := Nat.div_lt_of_lt_mul (by rw [Nat.mul_comm]; exact hk)
      have hj' : k % z < z := Nat.mod_lt _ hpos
      have hkk : k / z * z + k % z = k := by rw [Nat.mul_comm]; exact Nat.div_add_mod k z
      have g1 := flatten_get (List.replicate len zero) hrep (k / z) (k % z) zero (by simp [List.getElem?_replicate, hi']) hj'
      have g2 := madeCells_get zv.cells len z hzs hi' hj'
      rw [hkk] at g1 g2
      rw [g1, hzeq] at hx
      rw [Array.getElem?_toList, g2, ← Array.getElem?_toList] at hu'
      exact (zero_Cs (w := w) (M := M) (J := J) zv.cells.toList).2 _ _ _ hx hu'
    obtain ⟨cells', hc, hcs⟩ := fill_spec (place := fun k => some (k * z, z)) _ (ps.map fun (i, x) => (i, a.eval x)).toList _ _ (madeCells zv.cells (len * z)) hinit f1 (by simp) (by
      intro n q q' hq hq'
      simp only [Array.toList_map, List.map_map, List.getElem?_map, Option.map_eq_some_iff] at hq hq'
      obtain ⟨p, hp, rfl⟩ := hq
      obtain ⟨p', hp', rfl⟩ := hq'
      rw [hp] at hp'
      cases hp'
      exact ⟨rfl, ht.rv _⟩)
    have hlen : es.length = len := by rw [f3]; simp
    have hsize : cells'.size = len * z := by have := hcs.1; rw [flatten_len es f2, hlen] at this; simpa using this
    have hone : ∀ v ∈ cells'.toList, ∀ (k : Nat) (x : V), es.flatten[k]? = some x → cells'.toList[k]? = some v → v.oneCell' = true := by
      intro v _ k x hx hv
      refine storable_one (hcs.2 k x v hx hv) ?_
      obtain ⟨c, hcm, hxc⟩ := List.mem_flatten.1 (List.mem_of_getElem? hx)
      exact List.all_eq_true.1 (f4 c hcm) x hxc
    have hpush : ∀ (len0 : 0 < len * z), ∃ u w' M', (Instr.buildSlice t len (ps.map fun (i, x) => (i, a.eval x))).run P w = .ok u w' ∧ VR w' M' J (.rw H.length z (qlen es)) u ∧ HR w' M' J (newRowH e z false es H) ∧ Goes w M w' M' := by
      intro len0
      have hrun := run_buildSlice (P := P) w t e len (ps.map fun (i, x) => (i, a.eval x)) cells' i zv hu hi hzv (by rw [hiz]; simp; omega) (by rw [hiz]; omega) (by rw [hiz]; exact hc)
      obtain ⟨k1, k2⟩ := HR.push (w' := w.alloc (.cells cells' e)) (R := { e := e, z := z, bx := false, es := es }) (cur := cells') hh rfl rfl rfl rfl len hpos (by simp only [hlen]; exact Nat.le_refl _)
        (by have : len * 1 ≤ len * z := Nat.mul_le_mul_left _ hpos; simp only [maxLen]; omega) hsize
        (by
          intro k cs hk
          have hcl := f2 cs (List.mem_of_getElem? hk)
          refine ⟨hcl, fun j x hj => ?_⟩
          have hjl : j < z := by rw [← hcl]; exact (List.getElem?_eq_some_iff.1 hj).1
          have hkl : k < len := by rw [← hlen]; exact (List.getElem?_eq_some_iff.1 hk).1
          have hlt : k * z + j < cells'.size := by
            rw [hsize]
            calc k * z + j < k * z + z := by omega
              _ = (k + 1) * z := by rw [Nat.add_mul, Nat.one_mul]
              _ ≤ len * z := Nat.mul_le_mul_right _ hkl
          have hfx : es.flatten[k * z + j]? = some x := by rw [flatten_get es f2 k j cs hk hjl]; exact hj
          have hv : cells'.toList[k * z + j]? = some cells'[k * z + j] := by simp [hlt]
          exact ⟨_, Array.getElem?_eq_getElem hlt, hcs.2 _ _ _ hfx hv, hone _ (List.mem_of_getElem? hv) _ _ hfx hv⟩) (by simp)
      refine ⟨_, _, _, hrun, ?_, k1, k2⟩
      have := VR.rw (w := w.alloc (.cells cells' e)) (J := J) H.length z len ⟨w.heap.size, z, es.length, len⟩ w.heap.size len (M := M ++ [⟨w.heap.size, z, es.length, len⟩]) (by rw [hh.len]; simp) rfl (by simp only [hlen]; exact Nat.le_refl _) (Nat.le_refl _) fun _ => ⟨rfl, rfl⟩
      rw [show qlen es = len from hlen]
      exact this
    rcases Nat.eq_zero_or_pos len with h0 | h0
    · subst h0
      have hps : ps = #[] := by
        cases hq : ps.toList with
        | nil => rw [← Array.toArray_toList (xs := ps), hq]
        | cons p rest =>
          rw [hq] at hes
          simp [fillEs] at hes
      subst hps
      have hes0 : es = [] := List.eq_nil_of_length_eq_zero hlen
      subst hes0
      obtain ⟨k1, k2⟩ := HR.push (w' := w.alloc (.cells #[] e)) (R := { e := e, z := z, bx := false, es := [] }) (cur := #[]) hh rfl rfl rfl rfl 0 hpos (Nat.le_refl _) (Nat.zero_le _) (by simp) (by intro k cs hk; simp at hk) (by simp)
      refine ⟨.slice (some ⟨w.heap.size, 0, none⟩) 0 0, _, _, ?_, ?_, k1, k2⟩
      · simp [Instr.buildSlice, run_underlying hu, run_sizeOf hi, Instr.fill, newRow, Array.range_zero']
      · exact VR.rw (w := w.alloc (.cells #[] e)) (J := J) H.length z 0 ⟨w.heap.size, z, 0, 0⟩ w.heap.size 0 (M := M ++ [⟨w.heap.size, z, 0, 0⟩]) (by rw [hh.len]; simp) rfl (Nat.le_refl _) (Nat.le_refl _) fun _ => ⟨rfl, rfl⟩
    · exact hpush (Nat.mul_pos h0 hpos)
  · cases h

end
end Go.Am

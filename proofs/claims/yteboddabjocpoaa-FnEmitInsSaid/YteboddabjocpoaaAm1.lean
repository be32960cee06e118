/- The operations that look at no memory are sound. -/
import Derived.Test.YteboddabjocpoaaAm0
import Derived.Laws.Small
import Derived.Laws.Slices
import Derived.Laws.Unary
import Derived.Laws.Shifts
import Derived.Deep.MidRow
import Derived.Laws.StructEq
set_option linter.all false
namespace Go.Am

theorem allM_spec {α β : Type} {f : α → Option β} : ∀ {l : List α} {r : List β}, allM f l = some r → r.length = l.length ∧ ∀ (n : Nat) (a : α), l[n]? = some a → ∃ b, f a = some b ∧ r[n]? = some b
  | [], r, h => by
    cases h
    exact ⟨rfl, fun n a h => by simp at h⟩
  | a :: l, r, h => by
    simp only [allM, Option.bind_eq_some_iff, Option.map_eq_some_iff] at h
    obtain ⟨b, hb, r', hr, rfl⟩ := h
    obtain ⟨hl, ih⟩ := allM_spec hr
    refine ⟨by simp [hl], fun n a' ha => ?_⟩
    cases n with
    | zero => simp at ha; subst ha; exact ⟨b, hb, rfl⟩
    | succ n => exact ih n a' (by simpa using ha)

section
variable {P : Program} {T : Types} {w : World} {M : List RI} {J : Nat → Prop}

theorem VR.i_inv {k n u} (h : VR w M J (.i k n) u) : u = .int k n := by cases h; rfl
theorem VR.b_inv {n u} (h : VR w M J (.b n) u) : u = .bool n := by cases h; rfl
theorem VR.s_inv {n u} (h : VR w M J (.s n) u) : u = .string n := by cases h; rfl
theorem VR.agg_inv {cs u} (h : VR w M J (.agg cs) u) : ∃ vs : List Value, u = .agg vs.toArray ∧ vs.length = cs.length ∧ ∀ (j : Nat) (x : V) (v : Value), cs[j]? = some x → vs[j]? = some v → VR w M J x v := by
  cases h with
  | agg _ vs hl hv => exact ⟨vs, rfl, hl, hv⟩

/-- A list of cells and what they stand for. -/
def Cs (w : World) (M : List RI) (J : Nat → Prop) (cs : List V) (vs : List Value) : Prop := vs.length = cs.length ∧ ∀ (j : Nat) (x : V) (v : Value), cs[j]? = some x → vs[j]? = some v → VR w M J x v

theorem cells_spec {x : V} {u : Value} (h : VR w M J x u) (hs : okTop x = true) : Cs w M J (cellsV x) u.cells.toList := by
  have one : ∀ {x : V} {u : Value}, VR w M J x u → u.cells = #[u] → cellsV x = [x] → Cs w M J (cellsV x) u.cells.toList := by
    intro x u h h1 h2
    rw [h1, h2]
    refine ⟨rfl, fun j y v hy hv => ?_⟩
    cases j with
    | zero => simp at hy hv; subst hy; subst hv; exact h
    | succ j => simp at hy
  cases h with
  | junk => cases hs
  | un => cases hs
  | tup => cases hs
  | agg cs vs hl hv => exact ⟨by simpa [cellsV, Value.cells] using hl, by simpa [cellsV, Value.cells] using hv⟩
  | i k n => exact one (.i k n) rfl rfl
  | b t => exact one (.b t) rfl rfl
  | s t => exact one (.s t) rfl rfl
  | np => exact one .np rfl rfl
  | ns => exact one .ns rfl rfl
  | zs a => exact one (.zs a) rfl rfl
  | p r z n i o m a h hz hn ha => exact one (.p r z n i o m a h hz hn ha) rfl rfl
  | rw r z n m g c h hz hn hc ha => exact one (.rw r z n m g c h hz hn hc ha) rfl rfl
  | sl r z n off len m g o c h hz hn hl hc ha => exact one (.sl r z n off len m g o c h hz hn hl hc ha) rfl rfl
  | tl wl z es a c g o f ha hc hz h hv => exact one (.tl wl z es a c g o f ha hc hz h hv) rfl rfl
  | pe cs g o f ha h hv => exact one (.pe cs g o f ha h hv) rfl rfl
  | fn f cs vs hl hv => exact one (.fn f cs vs hl hv) rfl rfl

theorem cut_spec {cs r : List V} {vs : List Value} {o z : Nat} (h : Cs w M J cs vs) (hc : cut? cs o z = some r) : o + z ≤ cs.length ∧ r.length = z ∧ Cs w M J r ((vs.drop o).take z) := by
  unfold cut? at hc
  split at hc
  · rename_i hl
    cases hc
    have h1 := h.1
    refine ⟨hl, (by rw [List.length_take, List.length_drop]; omega), (by rw [List.length_take, List.length_drop, List.length_take, List.length_drop]; omega), fun j x v hx hv => ?_⟩
    rw [List.getElem?_take] at hx hv
    split at hx
    · rename_i hj
      rw [if_pos hj] at hv
      rw [List.getElem?_drop] at hx hv
      exact h.2 _ _ _ hx hv
    · cases hx
  · cases hc

theorem wrap_spec {cs : List V} {vs : List Value} {v : V} {ag : Bool} (h : Cs w M J cs vs) (hw : wrapV ag cs = some v) :
    (ag = true → VR w M J v (.agg vs.toArray)) ∧ (ag = false → ∃ u, vs = [u] ∧ VR w M J v u) := by
  unfold wrapV at hw
  cases ag with
  | true => cases hw; exact ⟨fun _ => .agg _ _ h.1 h.2, fun h => (by cases h)⟩
  | false =>
    refine ⟨fun h => (by cases h), fun _ => ?_⟩
    simp only at hw
    split at hw
    · rename_i x
      cases hw
      have h1 := h.1
      match vs, h1 with
      | [u], _ => exact ⟨u, rfl, h.2 0 _ _ rfl rfl⟩
    · cases hw

theorem fieldV_sound (hT : TypesOk P T) {S f ty off z : Nat} {x v : V} {u : Value} (h1 : fieldT T S f = some (ty, off)) (h2 : sz T ty = some z) (h : fieldV off z (isAggT T ty) x = some v) (hx : VR w M J x u) :
    ∃ r, (∀ w', (Instr.field S u f).run P w' = .ok r w') ∧ VR w M J v r := by
  obtain ⟨fs, fd, hu, hfd, rfl, rfl⟩ := fieldT_spec hT h1
  obtain ⟨i, hi, hz⟩ := sz_spec hT h2
  unfold fieldV at h
  split at h
  · rename_i cs
    obtain ⟨vs, rfl, hl, hv⟩ := hx.agg_inv
    simp only [Option.bind_eq_some_iff] at h
    obtain ⟨c, hc, hw⟩ := h
    obtain ⟨k1, k2, k3⟩ := cut_spec ⟨hl, hv⟩ hc
    obtain ⟨w1, w2⟩ := wrap_spec k3 hw
    have ha := isAggT_spec hT h2
    cases hb : isAggT T fd.type with
    | true =>
      refine ⟨_, fun w' => ?_, w1 hb⟩
      rw [hb] at ha
      simp [Instr.field, run_underlying hu, hfd, asAgg, part, ha, run_sizeOf hi, hz]
    | false =>
      obtain ⟨r, hr, hvr⟩ := w2 hb
      refine ⟨r, fun w' => ?_, hvr⟩
      rw [hb] at ha
      have hz1 : z = 1 := by
        have := congrArg List.length hr
        simp only [List.length_take, List.length_drop, List.length_cons, List.length_nil] at this
        omega
      have hg : vs[fd.offset]? = some r := by
        have := congrArg (fun l => l[0]?) hr
        simp [List.getElem?_drop, hz1] at this
        exact this
      simp [Instr.field, run_underlying hu, hfd, asAgg, part, ha, hg]
  · cases h

theorem foldl_set : ∀ (vs : List Value) (off i : Nat) (cells : Array Value), off + i + vs.length ≤ cells.size →
    ((vs.zipIdx i).foldl (fun (cs : Array Value) (q : Value × Nat) => cs.setIfInBounds (off + q.2) q.1) cells).toList = cells.toList.take (off + i) ++ (vs ++ cells.toList.drop (off + i + vs.length))
  | [], off, i, cells, _ => by simp
  | v :: vs, off, i, cells, h => by
    simp only [List.length_cons] at h
    rw [List.zipIdx_cons, List.foldl_cons, foldl_set vs off (i + 1) _ (by simp; omega)]
    simp only [Array.toList_setIfInBounds, List.length_cons]
    have h1 : off + i < cells.toList.length := by rw [Array.length_toList]; omega
    have e1 : (cells.toList.set (off + i) v).take (off + (i + 1)) = cells.toList.take (off + i) ++ [v] := by
      rw [← Nat.add_assoc, List.take_succ_eq_append_getElem (by simpa using h1), List.take_set, List.set_eq_of_length_le (by rw [List.length_take]; omega)]
      simp
    have e2 : (cells.toList.set (off + i) v).drop (off + (i + 1) + vs.length) = cells.toList.drop (off + i + (vs.length + 1)) := by
      rw [List.drop_set_of_lt (by omega)]
      congr 1
      omega
    rw [e1, e2]
    simp

theorem fill_spec {place : Nat → Option (Nat × Nat)} : ∀ (parts : List (Nat × Nat × V)) (parts' : List (Nat × Value)) (cs r : List V) (cells : Array Value), Cs w M J cs cells.toList → fillCs parts cs = some r →
    parts'.length = parts.length → (∀ (n : Nat) (q : Nat × Nat × V) (q' : Nat × Value), parts[n]? = some q → parts'[n]? = some q' → place q'.1 = some (q.1, q.2.1) ∧ VR w M J q.2.2 q'.2) →
    ∃ cells', Instr.fill place cells parts' = some cells' ∧ Cs w M J r cells'.toList
  | [], [], cs, r, cells, hc, h, _, _ => by
    cases h
    exact ⟨cells, rfl, hc⟩
  | (off, z, v) :: rest, (i, u) :: rest', cs, r, cells, hc, h, hl, hp => by
    simp only [fillCs] at h
    split at h
    · rename_i hh
      obtain ⟨h1, h2, h3⟩ := hh
      obtain ⟨p1, p2⟩ := hp 0 _ _ rfl rfl
      have hs := cells_spec p2 h3
      have hsz : u.cells.size = z := by rw [← h1, ← hs.1]; simp
      have hcs : cells.size = cs.length := by have := hc.1; simpa using this
      simp only [Instr.fill, p1]
      have hf := foldl_set u.cells.toList off 0 cells (by simp; omega)
      have hcond : ¬ ((decide (u.cells.size ≠ z) || decide (off + u.cells.size > cells.size)) = true) := by simp; omega
      rw [if_neg hcond]
      refine fill_spec rest rest' _ r _ ?_ h (by simpa using hl) fun n q q' hq hq' => hp (n + 1) q q' (by simpa using hq) (by simpa using hq')
      have he : (u.cells.zipIdx.foldl (fun (cs : Array Value) (x : Value × Nat) => cs.setIfInBounds (off + x.2) x.1) cells).toList = cells.toList.take off ++ (u.cells.toList ++ cells.toList.drop (off + z)) := by
        rw [← Array.foldl_toList]
        simp only [Array.toList_zipIdx, Nat.add_zero] at hf ⊢
        rw [hf]
        simp [hsz]
      have he' : Cs w M J (cs.take off ++ (cellsV v ++ cs.drop (off + z))) (cells.toList.take off ++ (u.cells.toList ++ cells.toList.drop (off + z))) := by
        refine ⟨by simp; omega, fun j x y hx hy => ?_⟩
        have l1 : (cs.take off).length = off := by rw [List.length_take]; omega
        have l2 : (cells.toList.take off).length = off := by rw [List.length_take]; simp; omega
        have l3 : u.cells.toList.length = z := by simpa using hsz
        rw [List.getElem?_append, l1] at hx
        rw [List.getElem?_append, l2] at hy
        split at hx
        · rename_i hj
          rw [if_pos hj] at hy
          rw [List.getElem?_take_of_lt hj] at hx hy
          exact hc.2 _ _ _ hx hy
        · rename_i hj
          rw [if_neg hj] at hy
          rw [List.getElem?_append, h1] at hx
          rw [List.getElem?_append, l3] at hy
          split at hx
          · rename_i hj'
            rw [if_pos hj'] at hy
            exact hs.2 _ _ _ hx hy
          · rename_i hj'
            rw [if_neg hj'] at hy
            rw [List.getElem?_drop] at hx hy
            exact hc.2 _ _ _ hx hy
      rw [← he] at he'
      exact he'
    · cases h

theorem run_mapM_array' {α β : Type} {f : α → Sem β} {w : World} {l : Array α} {r : List β} (hl : r.length = l.size) (hf : ∀ (n : Nat) (a : α) (b : β), l[n]? = some a → r[n]? = some b → (f a).run P w = .ok b w) : (l.mapM f).run P w = .ok r.toArray w := by
  rw [← Array.toArray_toList (xs := l), List.mapM_toArray]
  have : ∀ (l : List α) (r : List β), r.length = l.length → (∀ (n : Nat) (a : α) (b : β), l[n]? = some a → r[n]? = some b → (f a).run P w = .ok b w) → (l.mapM f).run P w = .ok r w := by
    intro l
    induction l with
    | nil => intro r hr _; cases r <;> simp at hr ⊢
    | cons a l ih =>
      intro r hr hf
      match r, hr with
      | b :: r, hr =>
        have h0 := hf 0 a b rfl rfl
        have h1 := ih r (by simpa using hr) fun n a b ha hb => hf (n + 1) a b (by simpa using ha) (by simpa using hb)
        simp [List.mapM_cons, h0, h1]
  have h2 := this l.toList r (by simpa using hl) (fun n a b ha hb => hf n a b (by simpa using ha) hb)
  simp [h2]

theorem places_spec (hT : TypesOk P T) {S : Nat} {pl : List (Nat × Nat)} (h : placesT T S = some pl) : ∃ fs : Array Field, P.underlying S = some (.struct fs) ∧
    ∀ w : World, (fs.mapM fun f => do pure (f.offset, ← sizeOf f.type) : Sem (Array (Nat × Nat))).run P w = .ok pl.toArray w := by
  simp only [placesT, Option.bind_eq_some_iff] at h
  obtain ⟨i, hi, h⟩ := h
  obtain ⟨info, d, h1, h2, _, _, _, _, h3, _⟩ := tiOf_spec (hT _ _ hi)
  split at h
  · cases h
  · rename_i hne
    rw [h3] at h hne
    obtain ⟨fs, rfl⟩ : ∃ fs, d = .struct fs := by
      cases d with
      | struct fs => exact ⟨fs, rfl⟩
      | _ => simp at hne
    refine ⟨fs, h2, fun w => ?_⟩
    simp only at h
    obtain ⟨hl, hs⟩ := allM_spec h
    refine run_mapM_array' (by simpa using hl) fun n f q hf hq => ?_
    obtain ⟨b, hb, hb'⟩ := hs n (f.type, f.offset) (by simp [hf])
    rw [hq] at hb'
    cases hb'
    simp only [Option.map_eq_some_iff] at hb
    obtain ⟨z, hz, rfl⟩ := hb
    obtain ⟨i', hi', hz'⟩ := sz_spec hT hz
    simp [run_sizeOf hi', hz']

theorem ofC_VR (v : Value) : VR w M J (ofC v) v := by
  unfold ofC
  split <;> first | exact .i _ _ | exact .b _ | exact .s _ | exact .np | exact .ns | exact .junk _

theorem zero_Cs (vs : List Value) : Cs w M J (vs.map ofC) vs :=
  ⟨by simp, fun j x v hx hv => by simp [hv] at hx; subst hx; exact ofC_VR v⟩

theorem build_sound (hT : TypesOk P T) {S : Nat} {zero : List V} {pl : List (Nat × Nat)} {ps : Array (Nat × Operand)} {l : List (Nat × Nat × RX)} {t : List V} {a : Act} {r : List V} (h1 : zeroT T S = some zero) (h2 : placesT T S = some pl)
    (h3 : allM (fun q : Nat × Operand => (pl[q.1]?).map fun fd => (fd.1, fd.2, rx q.2)) ps.toList = some l) (ht : TR w M J t a) (h : fillCs (l.map fun q => (q.1, q.2.1, rv t q.2.2)) zero = some r) :
    ∃ u, (∀ w', (Instr.build S (ps.map fun (i, x) => (i, a.eval x))).run P w' = .ok u w') ∧ VR w M J (.agg r) u := by
  obtain ⟨i, z, hi, hz, rfl⟩ := zeroT_spec hT h1
  obtain ⟨fs, hu, hm⟩ := places_spec hT h2
  obtain ⟨hl, hs⟩ := allM_spec h3
  obtain ⟨cells', hc, hcs⟩ := fill_spec (place := (pl.toArray[·]?)) _ (ps.map fun (i, x) => (i, a.eval x)).toList _ _ z.cells (zero_Cs _) h (by simpa using hl.symm) (by
    intro n q q' hq hq'
    simp only [Array.toList_map, List.getElem?_map, Option.map_eq_some_iff] at hq hq'
    obtain ⟨p, hp, rfl⟩ := hq
    obtain ⟨p', hp', rfl⟩ := hq'
    obtain ⟨b, hb, hb'⟩ := hs n p' hp'
    rw [hp] at hb'
    cases hb'
    simp only [Option.map_eq_some_iff] at hb
    obtain ⟨fd, hfd, rfl⟩ := hb
    exact ⟨by simpa using hfd, ht.rv _⟩)
  refine ⟨.agg cells', fun w' => ?_, ?_⟩
  · have hm' := hm w'
    simp only [Instr.build, Sem.run_bind, zeroValue, typeInfo, run_program, Result.andThen_ok, hi, hz, Sem.run_pure, run_underlying hu]
    rw [hm']
    simp only [Result.andThen_ok, hc]
    rfl
  · have := VR.agg (w := w) (M := M) (J := J) r cells'.toList hcs.1 hcs.2
    simpa using this

end
end Go.Am

/- The operations that look at no memory are sound: numbers, strings, slices; all together. -/
namespace Go.Am
section
variable {P : Program} {T : Types} {w : World} {M : List RI} {J : Nat → Prop}

theorem bin_sound {op : BinOp} {ty : TypeId} {x y v : V} {a c : Value} (h : binV op x y = some v) (hx : VR w M J x a) (hy : VR w M J y c) :
    ∃ r, (∀ w', (binOp op ty a c).run P w' = .ok r w') ∧ VR w M J v r := by
  unfold binV at h
  split at h
  · rename_i k a'
    have := hx.i_inv
    subst this
    split at h
    · rename_i k' c'
      have := hy.i_inv
      subst this
      have sh : ∀ op, (op = .shl ∨ op = .shr) → qshOk k c' = true → ∀ w', (binOp op ty (.int k a') (.int k' c')).run P w' = .ok (.int k (qbin op k a' c')) w' := by
        intro op ho hs w'
        simp only [qshOk, decide_eq_true_eq] at hs
        have h1 : ¬ c' < 0 := by omega
        have h2 : min c'.toNat k.bits = c'.toNat := by omega
        rcases ho with rfl | rfl <;> simp [binOp, Op.shift, h1, h2, qbin]
      have bi : ∀ op, k = k' → intBin op k a' c' = some v → op ≠ .shl → op ≠ .shr → ∃ r, (∀ w', (binOp op ty (.int k a') (.int k' c')).run P w' = .ok r w') ∧ VR w M J v r := by
        intro op hk hi h1 h2
        subst hk
        unfold intBin at hi
        split at hi
        · cases hi; exact ⟨_, fun w' => by simp [binOp, Op.intArith]; rfl, .i _ _⟩
        · cases hi; exact ⟨_, fun w' => by simp [binOp, Op.intArith]; rfl, .i _ _⟩
        · cases hi; exact ⟨_, fun w' => by simp [binOp, Op.intArith]; rfl, .i _ _⟩
        · cases hi; exact ⟨_, fun w' => by simp [binOp, intBits_and]; rfl, .i _ _⟩
        · cases hi; exact ⟨_, fun w' => by simp [binOp, intBits_or]; rfl, .i _ _⟩
        · cases hi; exact ⟨_, fun w' => by simp [binOp, intBits_xor]; rfl, .i _ _⟩
        · cases hi; exact ⟨_, fun w' => by simp [binOp, intBits_andNot]; rfl, .i _ _⟩
        · split at hi
          · cases hi
          · rename_i hq
            have h0 : ¬ c' = 0 := by intro e; simp [qtest, e] at hq
            cases hi; exact ⟨_, fun w' => by simp [binOp, Op.intDiv, h0]; rfl, .i _ _⟩
        · split at hi
          · cases hi
          · rename_i hq
            have h0 : ¬ c' = 0 := by intro e; simp [qtest, e] at hq
            cases hi; exact ⟨_, fun w' => by simp [binOp, Op.intDiv, h0]; rfl, .i _ _⟩
        · cases hi; exact ⟨_, fun w' => by simp [binOp, Op.intCmp]; rfl, .b _⟩
        · cases hi; exact ⟨_, fun w' => by simp [binOp, Op.intCmp]; rfl, .b _⟩
        · cases hi; exact ⟨_, fun w' => by simp [binOp, Op.intCmp]; rfl, .b _⟩
        · cases hi; exact ⟨_, fun w' => by simp [binOp, Op.intCmp]; rfl, .b _⟩
        · cases hi; exact ⟨_, fun w' => by simp [binOp, Op.intCmp]; rfl, .b _⟩
        · cases hi; exact ⟨_, fun w' => by simp [binOp, Op.intCmp]; rfl, .b _⟩
        · cases hi
      split at h
      · split at h
        · rename_i hs; cases h; exact ⟨_, sh _ (.inl rfl) hs, .i _ _⟩
        · cases h
      · split at h
        · rename_i hs; cases h; exact ⟨_, sh _ (.inr rfl) hs, .i _ _⟩
        · cases h
      · rename_i h1 h2
        split at h
        · rename_i hk; exact bi _ hk h (by simpa using h1) (by simpa using h2)
        · cases h
    · cases h
  · rename_i a'
    have := hx.s_inv
    subst this
    split at h
    · rename_i c'
      have := hy.s_inv
      subst this
      split at h
      · split at h
        · rename_i hr
          simp only [qsroom, decide_eq_true_eq] at hr
          cases h
          refine ⟨.string (a' ++ c'), fun w' => ?_, by unfold qsapp; exact .s _⟩
          have : ¬ (IntKind.i64.max < ((a'.size + c'.size : Nat) : Int)) := by simp [IntKind.max, IntKind.bits, IntKind.signed]; omega
          simp only [binOp, Op.stringOp, gt_iff_lt, if_neg this]
          rfl
        · cases h
      · cases h; exact ⟨_, fun w' => by simp [binOp, Op.stringOp]; rfl, .b _⟩
      · cases h; exact ⟨_, fun w' => by simp [binOp, Op.stringOp]; rfl, .b _⟩
      · cases h
    · cases h
  · cases h

theorem binB_sound (hT : TypesOk P T) {op : BinOp} {ty : TypeId} {x y v : V} {a c : Value} (ht : isBoolT T ty = true) (h : binBV op x y = some v) (hx : VR w M J x a) (hy : VR w M J y c) :
    ∃ r, (∀ w', (binOp op ty a c).run P w' = .ok r w') ∧ VR w M J v r := by
  have hu := isBoolT_spec hT ht
  unfold binBV at h
  split at h
  · rename_i a' c'
    have := hx.b_inv
    subst this
    have := hy.b_inv
    subst this
    split at h
    · cases h; exact ⟨_, fun w' => run_eql_bool w' ty a' c' hu, .b _⟩
    · cases h; exact ⟨_, fun w' => run_neq_bool w' ty a' c' hu, .b _⟩
    · cases h
  · cases h

/-- What a slice is in the model. -/
theorem VR.slice_nil {x : V} {u : Value} (h : VR w M J x u) {b : Bool} (hn : isNilV x = some b) : ∃ a l c, u = .slice a l c ∧ a.isNone = b := by
  cases h with
  | ns => simp [isNilV] at hn; subst hn; exact ⟨_, _, _, rfl, rfl⟩
  | zs a => simp [isNilV] at hn; subst hn; exact ⟨_, _, _, rfl, rfl⟩
  | rw r z n m g c h hz hn' hc ha => simp [isNilV] at hn; subst hn; exact ⟨_, _, _, rfl, rfl⟩
  | tl wl z es a c g o f ha hc hz h hv =>
    simp only [isNilV] at hn
    split at hn
    · cases hn
    · rename_i hq
      cases hn
      have : es ≠ [] := by intro e; subst e; simp [qnil] at hq
      rw [(ha this).1]
      exact ⟨_, _, _, rfl, rfl⟩
  | _ => simp [isNilV] at hn

theorem binN_sound (hT : TypesOk P T) {op : BinOp} {ty : TypeId} {x y v : V} {a c : Value} (ht : (elemT T ty).isSome = true) (h : binNV op x y = some v) (hx : VR w M J x a) (hy : VR w M J y c) :
    ∃ r, (∀ w', (binOp op ty a c).run P w' = .ok r w') ∧ VR w M J v r := by
  obtain ⟨e, he⟩ := Option.isSome_iff_exists.1 ht
  have hu := elemT_spec hT he
  unfold binNV at h
  split at h
  · cases hy
    have eq : ∀ b, isNilV x = some b → ∀ w', (Op.equal ty a (.slice none 0 0)).run P w' = .ok b w' := by
      intro b hb w'
      obtain ⟨p, l, cc, rfl, hp⟩ := hx.slice_nil hb
      have key : ∀ d, (Op.equalIn (d + 1) ty (.slice p l cc) (.slice none 0 0)).run P w' = .ok b w' := by
        intro d
        cases p with
        | none => simp at hp; subst hp; simp [Op.equalIn, run_underlying hu]
        | some p => simp at hp; subst hp; simp [Op.equalIn, run_underlying hu]
      exact key 9999
    have sl : ∀ b, isNilV x = some b → ∃ p l cc, a = .slice p l cc := fun b hb => let ⟨p, l, cc, e, _⟩ := hx.slice_nil hb; ⟨p, l, cc, e⟩
    split at h
    · simp only [Option.map_eq_some_iff] at h
      obtain ⟨b, hb, rfl⟩ := h
      refine ⟨_, fun w' => ?_, .b b⟩
      have hq := eq b hb w'
      obtain ⟨p, l, cc, rfl⟩ := sl b hb
      simp [binOp, hq]
    · simp only [Option.map_eq_some_iff] at h
      obtain ⟨b, hb, rfl⟩ := h
      refine ⟨_, fun w' => ?_, .b (!b)⟩
      have hq := eq b hb w'
      obtain ⟨p, l, cc, rfl⟩ := sl b hb
      simp [binOp, hq]
    · cases h
  · cases h

theorem un_sound {op : UnOp} {x v : V} {a : Value} (h : unV op x = some v) (hx : VR w M J x a) : ∃ r, (∀ w', (Op.unary op a).run P w' = .ok r w') ∧ VR w M J v r := by
  unfold unV at h
  split at h
  · have := hx.b_inv
    subst this
    split at h <;> cases h <;> exact ⟨_, fun w' => rfl, .b _⟩
  · have := hx.i_inv
    subst this
    cases h
    exact ⟨_, fun w' => rfl, .i _ _⟩
  · cases h

theorem len_sound (hT : TypesOk P T) {ty rt : TypeId} {str : Bool} {x v : V} {a : Value} (ht : if str = true then isStringT T ty = true else (elemT T ty).isSome = true) (h : lenV str x = some v) (hx : VR w M J x a) :
    ∃ r, (∀ w', (Builtin.len_ #[ty] rt #[a]).run P w' = .ok r w') ∧ VR w M J v r := by
  unfold lenV at h
  cases str with
  | true =>
    simp only [if_true] at ht
    have hu := isStringT_spec hT ht
    simp only at h
    split at h
    · cases h
      have := hx.s_inv
      subst this
      exact ⟨_, fun w' => by simp [Builtin.len_, run_underlying hu]; rfl, .i _ _⟩
    · cases h
  | false =>
    simp only [Bool.false_eq_true, if_false] at ht
    obtain ⟨e, he⟩ := Option.isSome_iff_exists.1 ht
    have hu := elemT_spec hT he
    have run : ∀ p l c, ∀ w', (Builtin.len_ #[ty] rt #[.slice p l c]).run P w' = .ok (.int .i64 (l : Int)) w' := by
      intro p l c w'
      simp [Builtin.len_, run_underlying hu, goInt]
    simp only at h
    split at h <;> cases h <;> cases hx
    · exact ⟨_, run _ _ _, .i _ _⟩
    · exact ⟨_, run _ _ _, .i _ _⟩
    · exact ⟨_, run _ _ _, .i _ _⟩
    · exact ⟨_, run _ _ _, .i _ _⟩
    · exact ⟨_, run _ _ _, .i _ _⟩

theorem best_sound {mn : Bool} : ∀ (xs : List V) (k : IntKind) (n : Int) (v : V) (us : List Value), bestV mn (.i k n) xs = some v → us.length = xs.length → (∀ (j : Nat) (x : V) (u : Value), xs[j]? = some x → us[j]? = some u → VR w M J x u) →
    ∃ r, (∀ w', ((us.foldlM (if mn = true then Builtin.min2 else Builtin.max2) (.int k n)) : Sem Value).run P w' = .ok r w') ∧ VR w M J v r
  | [], k, n, v, us, h, hl, _ => by
    cases us with
    | nil => cases h; exact ⟨_, fun w' => rfl, .i _ _⟩
    | cons u us => simp at hl
  | x :: xs, k, n, v, us, h, hl, hu => by
    match us, hl with
    | u :: us, hl =>
      have h0 := hu 0 x u rfl rfl
      cases x with
      | i k' c =>
        simp only [bestV] at h
        split at h
        · rename_i hk
          subst hk
          have := h0.i_inv
          subst this
          obtain ⟨r, h1, h2⟩ := best_sound xs k (qbest mn n c) v us h (by simpa using hl) fun j x u hx hu' => hu (j + 1) x u (by simpa using hx) (by simpa using hu')
          refine ⟨r, fun w' => ?_, h2⟩
          have h1' := h1 w'
          rw [List.foldlM_cons]
          cases mn <;> simp only [if_true, if_false, Bool.false_eq_true, Builtin.min2, Builtin.max2, qbest, gt_iff_lt] at h1' ⊢ <;> exact h1'
        · cases h
      | _ => simp [bestV] at h

end
end Go.Am

/- The operations that look at no memory are sound: slices, indexes, fields; all together. -/
namespace Go.Am
section
variable {P : Program} {T : Types} {w : World} {M : List RI} {J : Nat → Prop}

def OR (w : World) (M : List RI) (J : Nat → Prop) (x : Option V) (u : Option Value) : Prop := (x = none ∧ u = none) ∨ ∃ v c, x = some v ∧ u = some c ∧ VR w M J v c

theorem bound_some {d most n y : Nat} {v : V} {c : Value} {code : BoundsCode} (h : boundV d most (some v) = some n) (hx : VR w M J v c) (hy : most ≤ y) : n ≤ most ∧ ∀ w', (Instr.sliceBound c y code).run P w' = .ok n w' := by
  unfold boundV at h
  split at h
  · cases ‹some v = none›
  · rename_i k m hm
    cases hm
    have := hx.i_inv
    subst this
    split at h
    · rename_i hq
      simp only [qupTo, decide_eq_true_eq] at hq
      cases h
      refine ⟨by simp only [qtoN]; omega, fun w' => ?_⟩
      exact run_sliceBound w' k m y code hq.1 (by omega)
    · cases h
  · cases h

theorem bounds_spec {isS : Bool} {len cap h l : Nat} {lo hi : Option V} {ulo uhi : Option Value} (hh : boundV len len hi = some h) (hl : boundV 0 h lo = some l) (hlo : OR w M J lo ulo) (hhi : OR w M J hi uhi) (hc : len ≤ cap) :
    l ≤ h ∧ h ≤ len ∧ ∀ w', (Instr.sliceBounds isS len cap ulo uhi none).run P w' = .ok (l, h, cap) w' := by
  rcases hhi with ⟨rfl, rfl⟩ | ⟨v, c, rfl, rfl, hv⟩ <;> rcases hlo with ⟨rfl, rfl⟩ | ⟨v', c', rfl, rfl, hv'⟩
  · cases hh
    cases hl
    exact ⟨Nat.zero_le _, Nat.le_refl _, fun w' => by simp [Instr.sliceBounds]⟩
  · cases hh
    obtain ⟨k1, k2⟩ := bound_some (P := P) (code := .sliceB) hl hv' (Nat.le_refl _)
    exact ⟨k1, Nat.le_refl _, fun w' => by simp [Instr.sliceBounds, k2]⟩
  · cases hl
    obtain ⟨k1, k2⟩ := bound_some (P := P) (code := if isS = true then .sliceAcap else .sliceAlen) hh hv hc
    exact ⟨Nat.zero_le _, k1, fun w' => by simp [Instr.sliceBounds, k2]⟩
  · obtain ⟨k1, k2⟩ := bound_some (P := P) (code := if isS = true then .sliceAcap else .sliceAlen) hh hv hc
    obtain ⟨k3, k4⟩ := bound_some (P := P) (code := .sliceB) hl hv' (Nat.le_refl _)
    exact ⟨k3, k1, fun w' => by simp [Instr.sliceBounds, k2, k4]⟩

theorem add_addr (g o n : Nat) : (⟨g, o, none⟩ : Addr).add n = ⟨g, o + n, none⟩ := Addr.add_mid g o n

theorem cutL_sound (hT : TypesOk P T) {ty e z : Nat} {x v : V} {u : Value} {lo hi mx : Option V} {ulo uhi umx : Option Value} (he : elemT T ty = some e) (hz : sz T e = some z) (h : cutLV z x lo hi mx = some v) (hx : VR w M J x u)
    (hlo : OR w M J lo ulo) (hhi : OR w M J hi uhi) (hmx : OR w M J mx umx) : ∃ r, (∀ w', (Instr.sliceAt ty u ulo uhi umx).run P w' = .ok r w') ∧ VR w M J v r := by
  have hu := elemT_spec hT he
  obtain ⟨ie, hie, hie'⟩ := sz_spec hT hz
  have run : ∀ a len cap l hh m, (∀ w', (Instr.sliceBounds true len cap ulo uhi umx).run P w' = .ok (l, hh, m) w') → ∀ w', (Instr.sliceAt ty (.slice a len cap) ulo uhi umx).run P w' = .ok (.slice (if m = l then a else a.map (·.add (l * z))) (hh - l) (m - l)) w' := by
    intro a len cap l hh m hb w'
    simp only [Instr.sliceAt, Instr.slice, Sem.run_bind, run_underlying hu, Result.andThen_ok, hb, run_sizeOf hie, hie', Sem.run_pure]
  unfold cutLV at h
  split at h
  · -- three indexes
    rename_i m
    rcases hmx with ⟨hm, _⟩ | ⟨mv, mc, hm, rfl, hmv⟩
    · cases hm
    cases hm
    have three : ∀ k1 k2 a len cap, m = .i k1 0 → hi = some (.i k2 0) → lo = none → ∀ w', (Instr.sliceAt ty (.slice a len cap) ulo uhi (some mc)).run P w' = .ok (.slice a 0 0) w' := by
      intro k1 k2 a len cap hm hh hl w'
      subst hm hh hl
      have := hmv.i_inv
      subst this
      rcases hhi with ⟨hh, _⟩ | ⟨hv, hc, hh, rfl, hhv⟩
      · cases hh
      cases hh
      have := hhv.i_inv
      subst this
      rcases hlo with ⟨_, rfl⟩ | ⟨_, _, hl, _⟩
      · rw [run a len cap 0 0 0 (fun w' => by simp [Instr.sliceBounds, Instr.sliceBound, asIntOf])]
        simp
      · cases hl
    split at h
    · cases h; cases hx; exact ⟨_, three _ _ _ _ _ rfl rfl rfl, .zs _⟩
    · cases h; cases hx; exact ⟨_, three _ _ _ _ _ rfl rfl rfl, .zs _⟩
    · cases h; cases hx; exact ⟨_, three _ _ _ _ _ rfl rfl rfl, .ns⟩
    · cases h; cases hx; exact ⟨_, three _ _ _ _ _ rfl rfl rfl, .zs _⟩
    · cases h
  · have hum : umx = none := by
      rcases hmx with ⟨_, h⟩ | ⟨_, _, hm, _⟩
      · exact h
      · cases hm
    subst hum
    split at h
    · split at h
      · rename_i r z' n hz'
        subst hz'
        simp only [Option.bind_eq_some_iff, Option.some.injEq] at h
        obtain ⟨hh, h1, l, h2, rfl⟩ := h
        cases hx with
        | rw _ _ _ m g c hm hmz hn hc ha =>
          obtain ⟨b1, b2, b3⟩ := bounds_spec (P := P) (isS := true) h1 h2 hlo hhi hc
          refine ⟨_, run _ _ _ _ _ _ b3, ?_⟩
          by_cases hcl : c = l
          · simp only [hcl, if_true, qsub]
            exact .sl r _ n l (hh - l) m g 0 _ hm hmz hn (by omega) (by omega) fun e => ⟨(ha e).1, .inl (by omega)⟩
          · simp only [hcl, if_false, qsub, Option.map_some, add_addr, Nat.zero_add]
            exact .sl r _ n l (hh - l) m g _ _ hm hmz hn (by omega) (by omega) fun e => ⟨(ha e).1, .inr rfl⟩
      · cases h
    · split at h
      · rename_i r z' n off len hz'
        subst hz'
        simp only [Option.bind_eq_some_iff, Option.some.injEq] at h
        obtain ⟨hh, h1, l, h2, rfl⟩ := h
        cases hx with
        | sl _ _ _ _ _ m g o c hm hmz hn hl hc ha =>
          obtain ⟨b1, b2, b3⟩ := bounds_spec (P := P) (isS := true) h1 h2 hlo hhi hc
          refine ⟨_, run _ _ _ _ _ _ b3, ?_⟩
          by_cases hcl : c = l
          · simp only [hcl, if_true, qsub, qadd]
            exact .sl r _ n (off + l) (hh - l) m g o _ hm hmz hn (by omega) (by omega) fun e => ⟨(ha e).1, .inl (by omega)⟩
          · simp only [hcl, if_false, qsub, qadd, Option.map_some, add_addr]
            refine .sl r _ n (off + l) (hh - l) m g _ _ hm hmz hn (by omega) (by omega) fun e => ⟨(ha e).1, ?_⟩
            rcases (ha e).2 with h0 | h0
            · exact .inl (by omega)
            · exact .inr (by rw [h0, Nat.add_mul])
      · cases h
    · split at h
      · rename_i wl z' es hz'
        subst hz'
        simp only [Option.bind_eq_some_iff, Option.some.injEq] at h
        obtain ⟨hh, h1, l, h2, rfl⟩ := h
        cases hx with
        | tl _ _ _ a c g o f ha hc hzz hcell hv =>
          obtain ⟨b1, b2, b3⟩ := bounds_spec (P := P) (isS := true) h1 h2 hlo hhi hc
          simp only [qlen] at b2
          refine ⟨_, run _ _ _ _ _ _ b3, ?_⟩
          have hget : ∀ (i : Nat) cs, (qpart es l (qsub hh l))[i]? = some cs → es[l + i]? = some cs := by
            intro i cs hi
            simp only [qpart, qsub] at hi
            rw [List.getElem?_take] at hi
            split at hi
            · rwa [List.getElem?_drop] at hi
            · cases hi
          have hl' : (qpart es l (qsub hh l)).length = hh - l := by simp only [qpart, qsub, List.length_take, List.length_drop]; omega
          have key := VR.tl (w := w) (M := M) (J := J) wl z' (qpart es l (qsub hh l)) (if c = l then a else a.map (·.add (l * z'))) (c - l) g (o + l * z') (fun i j => f (l + i) j) ?_ (by rw [hl']; omega)
            (fun i cs hi => hzz _ _ (hget i cs hi)) (fun i j cs y hi hj => ?_) (fun i j cs y hi hj => hv _ _ _ _ (hget i cs hi) hj)
          · rw [hl'] at key
            exact key
          · intro hne
            have hpos : 0 < hh - l := by rw [← hl']; exact List.length_pos_iff.2 hne
            have hes : es ≠ [] := by intro e; subst e; simp at b2; omega
            obtain ⟨a1, a2, a3⟩ := ha hes
            refine ⟨?_, a2, a3⟩
            rw [if_neg (by omega), a1]
            simp [add_addr]
          · have := hcell (l + i) j cs y (hget i cs hi) hj
            rw [show o + l * z' + (i * z' + j) = o + ((l + i) * z' + j) by rw [Nat.add_mul]; omega]
            exact this
      · cases h
    · simp only [Option.bind_eq_some_iff, Option.some.injEq] at h
      obtain ⟨hh, h1, l, h2, rfl⟩ := h
      cases hx
      obtain ⟨b1, b2, b3⟩ := bounds_spec (P := P) (isS := true) h1 h2 hlo hhi (Nat.le_refl 0)
      refine ⟨_, run _ _ _ _ _ _ b3, ?_⟩
      have : l = 0 := by omega
      have : hh = 0 := by omega
      subst_vars
      exact .ns
    · simp only [Option.bind_eq_some_iff, Option.some.injEq] at h
      obtain ⟨hh, h1, l, h2, rfl⟩ := h
      cases hx
      obtain ⟨b1, b2, b3⟩ := bounds_spec (P := P) (isS := true) h1 h2 hlo hhi (Nat.le_refl 0)
      refine ⟨_, run _ _ _ _ _ _ b3, ?_⟩
      have : l = 0 := by omega
      have : hh = 0 := by omega
      subst_vars
      exact .zs _
    · cases h

end
end Go.Am

/- The operations that look at no memory are sound: indexes, fields, the rest; all together. -/
namespace Go.Am
section
variable {P : Program} {T : Types} {w : World} {M : List RI} {J : Nat → Prop}

theorem cutS_sound (hT : TypesOk P T) {ty : TypeId} {x v : V} {u : Value} {lo hi : Option V} {ulo uhi : Option Value} (he : isStringT T ty = true) (h : cutSV x lo hi = some v) (hx : VR w M J x u)
    (hlo : OR w M J lo ulo) (hhi : OR w M J hi uhi) : ∃ r, (∀ w', (Instr.sliceAt ty u ulo uhi none).run P w' = .ok r w') ∧ VR w M J v r := by
  have hu := isStringT_spec hT he
  unfold cutSV at h
  split at h
  · rename_i t
    have := hx.s_inv
    subst this
    simp only [Option.bind_eq_some_iff, Option.some.injEq] at h
    obtain ⟨hh, h1, l, h2, rfl⟩ := h
    obtain ⟨b1, b2, b3⟩ := bounds_spec (P := P) (isS := false) h1 h2 hlo hhi (Nat.le_refl _)
    refine ⟨_, fun w' => ?_, .s _⟩
    have b3' := b3 w'
    simp only [qslen] at b3'
    simp [Instr.sliceAt, Instr.slice, run_underlying hu, b3', qssub]
  · cases h

theorem indexA_sound (hT : TypesOk P T) {ty e z : Nat} {x ix v : V} {u ui : Value} (he : elemT T ty = some e) (hz : sz T e = some z) (h : indexA z x ix = some v) (hx : VR w M J x u) (hi : VR w M J ix ui) :
    ∃ r, (∀ w', (Instr.indexAt ty u ui).run P w' = .ok r w') ∧ VR w M J v r := by
  have hu := elemT_spec hT he
  obtain ⟨ie, hie, hie'⟩ := sz_spec hT hz
  unfold indexA at h
  split at h
  · rename_i ki k
    have := hi.i_inv
    subst this
    have run : ∀ (a : Addr) (len cap : Nat), 0 ≤ k ∧ k < (len : Int) → ∀ w', (Instr.indexAt ty (.slice (some a) len cap) (.int ki k)).run P w' = .ok (.pointer (some (a.add (k.toNat * z)))) w' := by
      intro a len cap hk w'
      simp [Instr.indexAt, asIntOf, run_underlying hu, hk, run_sizeOf hie, hie']
    split at h
    · split at h
      · rename_i r z' n hz'
        subst hz'
        split at h
        · rename_i hq
          simp only [qinn, decide_eq_true_eq] at hq
          cases h
          cases hx with
          | rw _ _ _ m g c hm hmz hn hc ha =>
            refine ⟨_, run _ _ _ hq, ?_⟩
            rw [add_addr]
            exact .p r _ n _ 0 m _ hm hmz hn fun e => by rw [(ha e).1]; simp [qtoN]
        · cases h
      · cases h
    · split at h
      · rename_i r z' n off len hz'
        subst hz'
        split at h
        · rename_i hq
          simp only [qinn, decide_eq_true_eq] at hq
          cases h
          cases hx with
          | sl _ _ _ _ _ m g o c hm hmz hn hl hc ha =>
            refine ⟨_, run _ _ _ hq, ?_⟩
            rw [add_addr]
            refine .p r _ n _ 0 m _ hm hmz hn fun e => ?_
            obtain ⟨a1, a2⟩ := ha e
            have : o = off * z' := by
              rcases a2 with h0 | h0
              · omega
              · exact h0
            rw [a1, this]
            simp [qtoN, qadd, Nat.add_mul]
        · cases h
      · cases h
    · split at h
      · rename_i wl z' es hz'
        subst hz'
        split at h
        · rename_i hq
          replace hq : 0 ≤ k ∧ k < (es.length : Int) := by unfold qinn at hq; exact of_decide_eq_true hq
          simp only [Option.map_eq_some_iff] at h
          obtain ⟨cs, hcs, rfl⟩ := h
          simp only [qget, qtoN] at hcs
          cases hx with
          | tl _ _ _ a c g o f ha hc hzz hcell hv =>
            have hne : es ≠ [] := by intro e; subst e; simp at hcs
            obtain ⟨a1, a2, a3⟩ := ha hne
            subst a1
            refine ⟨_, run _ _ _ hq, ?_⟩
            rw [add_addr]
            exact .pe cs g _ (f k.toNat) (fun _ => ⟨a2.1, fun h => by cases h⟩) (fun j y hj => by rw [Nat.add_assoc]; exact (hcell _ j cs y hcs hj).1) (fun j y hj => hv _ j cs y hcs hj)
        · cases h
      · cases h
    · cases h
  · cases h

theorem indexS_sound (hT : TypesOk P T) {ty : Nat} {x ix v : V} {u ui : Value} (he : isStringT T ty = true) (h : indexS x ix = some v) (hx : VR w M J x u) (hi : VR w M J ix ui) :
    ∃ r, (∀ w', (Instr.index ty u ui).run P w' = .ok r w') ∧ VR w M J v r := by
  have hu := isStringT_spec hT he
  unfold indexS at h
  split at h
  · rename_i t ki k
    have := hi.i_inv
    subst this
    have := hx.s_inv
    subst this
    split at h
    · rename_i hq
      replace hq : 0 ≤ k ∧ k < (t.size : Int) := by unfold qinn at hq; exact of_decide_eq_true hq
      cases h
      have hlt : k.toNat < t.size := by omega
      refine ⟨_, fun w' => ?_, .i _ _⟩
      simp [Instr.index, asIntOf, run_underlying hu, hq.1, qsget, qtoN, getElem?_pos t k.toNat hlt]
    · cases h
  · cases h

theorem fieldA_sound (hT : TypesOk P T) {S f ty off z : Nat} {x v : V} {u : Value} (h1 : fieldT T S f = some (ty, off)) (h2 : sz T ty = some z) (hz0 : z ≠ 0) (h : fieldA off x = some v) (hx : VR w M J x u) :
    ∃ r, (∀ w', (Instr.fieldAt S u f).run P w' = .ok r w') ∧ VR w M J v r := by
  obtain ⟨fs, fd, hu, hfd, rfl, rfl⟩ := fieldT_spec hT h1
  obtain ⟨i, hi, hz⟩ := sz_spec hT h2
  have run : ∀ a, ∀ w', (Instr.fieldAt S (.pointer (some a)) f).run P w' = .ok (.pointer (some (a.add fd.offset))) w' := by
    intro a w'
    have : ¬ i.size = 0 := by omega
    simp [Instr.fieldAt, run_underlying hu, hfd, Instr.sureAddr, fieldPlace, run_sizeOf hi, this]
  unfold fieldA at h
  split at h
  · rename_i r z' n ii o
    cases h
    cases hx with
    | p _ _ _ _ _ m a hm hmz hn ha =>
      refine ⟨_, run a, .p r z' n ii _ m _ hm hmz hn fun e => ?_⟩
      rw [ha e, add_addr, Nat.add_assoc]
  · rename_i cs
    cases h
    cases hx with
    | pe _ g o ff ha hc hv =>
      refine ⟨_, run _, ?_⟩
      rw [add_addr]
      refine .pe _ g _ (fun j => ff (fd.offset + j)) (fun hne => ha (by intro e; subst e; simp at hne)) (fun j y hj => ?_) (fun j y hj => ?_)
      · rw [List.getElem?_drop] at hj
        rw [Nat.add_assoc]
        exact hc _ _ hj
      · rw [List.getElem?_drop] at hj
        exact hv _ _ hj
  · cases h

theorem ext_sound {vs : List V} {ix : Nat} {v : V} {u : Value} (h : vs[ix]? = some v) (hx : VR w M J (.tup vs) u) : ∃ r, (∀ w', (Instr.extract u ix).run P w' = .ok r w') ∧ VR w M J v r := by
  cases hx with
  | tup _ us hl hv =>
    have hlt : ix < us.length := by rw [hl]; exact (List.getElem?_eq_some_iff.1 h).1
    have hu : us[ix]? = some us[ix] := List.getElem?_eq_getElem hlt
    exact ⟨_, fun w' => by simp [Instr.extract, hu], hv _ _ _ h hu⟩

theorem OR.of {t : List V} {a : Act} (ht : TR w M J t a) (x : Option Operand) : OR w M J ((x.map rx).map (rv t)) (x.map a.eval) := by
  cases x with
  | none => exact .inl ⟨rfl, rfl⟩
  | some x => exact .inr ⟨_, _, rfl, rfl, ht.rv x⟩

theorem orBad_some {q : Option RO} {r : RO} (h : orBad q = r) (hr : r ≠ .bad) : q = some r := by
  cases q with
  | none => exact absurd h.symm hr
  | some x => exact congrArg some h

theorem eqGuard_ok (op : BinOp) (ty : TypeId) (x y : Operand) (u u' : Value) (w' : World) (hn : ¬ (u = .nilIface ∧ u' = .nilIface)) (ha : ¬ ∃ p q, u = .agg p ∧ u' = .agg q) : (eqGuard op ty x y u u').run P w' = .ok () w' := by
  cases op <;> first
    | rfl
    | (cases u <;> first
        | (cases u' <;> first
            | (exfalso; exact hn ⟨rfl, rfl⟩)
            | (exfalso; exact ha ⟨_, _, rfl, rfl⟩)
            | rfl)
        | rfl)

theorem eqFields_sound {d : Nat} {xs ys : List Value} : ∀ (fs : List Field) (n : Nat) (cs ds : List V) (r : Bool), eqFs P n fs = true → cs.length = fs.length → eqIs cs ds = some r →
    (∀ (j : Nat) (x : V), cs[j]? = some x → ∃ v, xs[n + j]? = some v ∧ VR w M J x v) → (∀ (j : Nat) (x : V), ds[j]? = some x → ∃ v, ys[n + j]? = some v ∧ VR w M J x v) →
    ∀ w', (Op.eqFields (d + 1) xs.toArray ys.toArray fs).run P w' = .ok r w' := by
  intro fs
  induction fs with
  | nil =>
    intro n cs ds r _ hl he _ _ w'
    have : cs = [] := List.eq_nil_of_length_eq_zero hl
    subst this
    cases ds with
    | nil => cases he; rfl
    | cons _ _ => cases he
  | cons f fs ih =>
    intro n cs ds r hf hl he hx hy w'
    cases cs with
    | nil => cases hl
    | cons c cs =>
      cases ds with
      | nil => cases c <;> cases he
      | cons e ds =>
        simp only [eqFs, Bool.and_eq_true, bne_iff_ne, ne_eq] at hf
        obtain ⟨⟨⟨hn, ho⟩, hu⟩, hr⟩ := hf
        have ho : f.offset = n := Nat.eq_of_beq_eq_true ho
        cases hk : P.underlying f.type with
        | none => rw [hk] at hu; cases hu
        | some dd =>
          rw [hk] at hu
          cases dd <;> simp at hu
          rename_i kk
          cases c <;> cases e <;> try (cases he; done)
          rename_i k1 a1 k2 a2
          simp only [eqIs] at he
          split at he
          · rename_i hkk
            subst hkk
            simp only [Option.map_eq_some_iff] at he
            obtain ⟨r', hr', rfl⟩ := he
            obtain ⟨v1, e1, q1⟩ := hx 0 _ rfl
            obtain ⟨v2, e2, q2⟩ := hy 0 _ rfl
            have := q1.i_inv
            subst this
            have := q2.i_inv
            subst this
            have hrec := ih (n + 1) cs ds r' hr (by simpa using hl) hr' (fun j x hj => by have := hx (j + 1) x (by simpa using hj); rwa [show n + (j + 1) = n + 1 + j by omega] at this) (fun j x hj => by have := hy (j + 1) x (by simpa using hj); rwa [show n + (j + 1) = n + 1 + j by omega] at this) w'
            have hag : ∀ w'', (isAgg f.type).run P w'' = .ok false w'' := fun w'' => by simp only [isAgg, Sem.run_bind, run_underlying hk, Result.andThen_ok]; rfl
            have hp1 : ∀ w'', (part f.type xs.toArray f.offset).run P w'' = .ok (.int k1 a1) w'' := fun w'' => by
              have : xs.toArray[f.offset]? = some (.int k1 a1) := by rw [ho]; simpa using e1
              simp [part, hag, this]
            have hp2 : ∀ w'', (part f.type ys.toArray f.offset).run P w'' = .ok (.int k1 a2) w'' := fun w'' => by
              have : ys.toArray[f.offset]? = some (.int k1 a2) := by rw [ho]; simpa using e2
              simp [part, hag, this]
            simp only [Op.eqFields, ne_eq, hn, not_false_eq_true, if_true, Sem.run_bind, hp1, hp2, Result.andThen_ok, run_equalIn_int w' d f.type k1 kk a1 a2 hk]
            unfold qieq
            cases hb : (a1 == a2) with
            | true => simpa using hrec
            | false => simp
          · cases he

theorem binA_sound (hT : TypesOk P T) {op : BinOp} {ty : TypeId} {x y : Operand} {nf : Nat} {x' y' v : V} {a c : Value} (ht : eqiT T ty = some nf) (h : binAV op nf x' y' = some v) (hx : VR w M J x' a) (hy : VR w M J y' c) :
    ∃ r, (∀ w', (eqGuard op ty x y a c).run P w' = .ok () w' ∧ (binOp op ty a c).run P w' = .ok r w') ∧ VR w M J v r := by
  obtain ⟨fs, h1, h2, h3, h4, h5⟩ := eqiT_spec hT ht
  unfold binAV at h
  split at h
  · rename_i cs ds
    cases hx with
    | agg _ xs hlx hvx =>
      cases hy with
      | agg _ ys hly hvy =>
        split at h
        · rename_i hlen
          have hfo : P.underlying ty = some (.struct (P.fieldsOf ty)) := by rw [h1]; simp [Program.fieldsOf, h1]
          have hfo' : P.fieldsOf ty = fs := by simp [Program.fieldsOf, h1]
          have get : ∀ {l : List V} {us : List Value}, us.length = l.length → (∀ (j : Nat) (x : V) (v : Value), l[j]? = some x → us[j]? = some v → VR w M J x v) → ∀ (j : Nat) (x : V), l[j]? = some x → ∃ v, us[0 + j]? = some v ∧ VR w M J x v := by
            intro l us hl hv j x hj
            have hlt : j < us.length := by rw [hl]; exact (List.getElem?_eq_some_iff.1 hj).1
            exact ⟨us[j], by rw [Nat.zero_add]; exact List.getElem?_eq_getElem hlt, hv j x _ hj (List.getElem?_eq_getElem hlt)⟩
          have key : ∀ r, eqIs cs ds = some r → ∀ w', (Op.equalIn 10000 ty (.agg xs.toArray) (.agg ys.toArray)).run P w' = .ok r w' := by
            intro r hr w'
            rw [run_equalIn_agg w' 9999 ty _ _ hfo h3, hfo']
            exact eqFields_sound (d := 9998) fs.toList 0 cs ds r h5 (by simp [hlen.1, h2]) hr (get hlx hvx) (get hly hvy) w'
          split at h
          · simp only [Option.map_eq_some_iff] at h
            obtain ⟨r, hr, rfl⟩ := h
            exact ⟨_, fun w' => ⟨run_eqGuard_agg w' _ ty x y _ _ h4, by rw [run_eql_struct, key r hr w']; rfl⟩, .b r⟩
          · simp only [Option.map_eq_some_iff] at h
            obtain ⟨r, hr, rfl⟩ := h
            exact ⟨_, fun w' => ⟨run_eqGuard_agg w' _ ty x y _ _ h4, by rw [run_neq_struct, key r hr w']; rfl⟩, .b (!r)⟩
          · cases h
        · cases h
  · cases h

theorem light_sound (hT : TypesOk P T) (o : Oper) {t : List V} {a : Act} {v : V} (h : lightV (resO T o.op) t = some v) (ht : TR w M J t a) :
    ∃ r, (∀ w', (execOp a.eval o).run P w' = .ok (.value r) w') ∧ VR w M J v r := by
  obtain ⟨dst, op, type, pos, after, guard⟩ := o
  simp only at h
  have val : ∀ {s : Sem Value}, (∃ r, (∀ w', s.run P w' = .ok r w') ∧ VR w M J v r) → ∃ r, (∀ w', (do pure (Next.value (← s)) : Sem Next).run P w' = .ok (.value r) w') ∧ VR w M J v r := by
    rintro s ⟨r, h1, h2⟩
    exact ⟨r, fun w' => by simp [h1 w'], h2⟩
  cases op with
  | move x => simp only [resO, lightV, Option.some.injEq] at h; subst h; exact ⟨_, fun w' => rfl, ht.rv x⟩
  | assign x => simp only [resO, lightV, Option.some.injEq] at h; subst h; exact ⟨_, fun w' => rfl, ht.rv x⟩
  | pick c x y =>
    simp only [resO, lightV] at h
    have hc := ht.rv c
    split at h
    · rename_i q hq
      rw [hq] at hc
      have hc := hc.b_inv
      cases q with
      | true => simp only [Option.some.injEq] at h; subst h; exact ⟨_, fun w' => by simp [execOp, hc, asBool], ht.rv x⟩
      | false => simp only [Option.some.injEq] at h; subst h; exact ⟨_, fun w' => by simp [execOp, hc, asBool], ht.rv y⟩
    · cases h
  | build ty ps =>
    simp only [resO] at h
    cases hb : (zeroT T ty).bind fun zero => (placesT T ty).bind fun pl => (allM (fun q : Nat × Operand => (pl[q.1]?).map fun fd => (fd.1, fd.2, rx q.2)) ps.toList).map fun l => RO.build zero l with
    | none => rw [hb] at h; cases h
    | some ro =>
      rw [hb] at h
      simp only [Option.bind_eq_some_iff, Option.map_eq_some_iff] at hb
      obtain ⟨zero, hz, pl, hp, l, hl, rfl⟩ := hb
      simp only [orBad, lightV, Option.map_eq_some_iff] at h
      obtain ⟨r, hr, rfl⟩ := h
      exact val (build_sound hT hz hp hl ht hr)
  | nilCheck x =>
    simp only [resO, lightV] at h
    have hx := ht.rv x
    split at h
    · rename_i hq
      rw [hq] at hx
      simp only [Option.some.injEq] at h
      subst h
      refine ⟨a.eval x, fun w' => ?_, hx⟩
      simp only [execOp]
      generalize a.eval x = u at hx
      cases hx
      rfl
    · rename_i hq
      rw [hq] at hx
      simp only [Option.some.injEq] at h
      subst h
      refine ⟨a.eval x, fun w' => ?_, hx⟩
      simp only [execOp]
      generalize a.eval x = u at hx
      cases hx
      rfl
    · rename_i hq
      rw [hq] at hx
      simp only [Option.some.injEq] at h
      subst h
      refine ⟨a.eval x, fun w' => ?_, hx⟩
      simp only [execOp]
      generalize a.eval x = u at hx
      cases hx
      rfl
    · cases h
  | binOp op ty x y ty' =>
    have hx := ht.rv x
    have hy := ht.rv y
    have fin : (∃ r, (∀ w', (binOp op ty (a.eval x) (a.eval y)).run P w' = .ok r w') ∧ VR w M J v r) → (¬ (a.eval x = .nilIface ∧ a.eval y = .nilIface)) → (¬ ∃ p q, a.eval x = .agg p ∧ a.eval y = .agg q) →
        ∃ r, (∀ w', (execOp a.eval { dst := dst, op := .binOp op ty x y ty', type := type, pos := pos, after := after, guard := guard }).run P w' = .ok (.value r) w') ∧ VR w M J v r := by
      rintro ⟨r, h1, h2⟩ hn ha
      refine ⟨r, fun w' => ?_, h2⟩
      have hg := eqGuard_ok (P := P) op ty x y (a.eval x) (a.eval y) w' hn ha
      simp only [execOp, Sem.run_bind, hg, Result.andThen_ok, h1, Sem.run_pure]
    simp only [resO] at h
    split at h
    · rename_i hb
      refine fin (binB_sound hT hb h hx hy) ?_ ?_
      · rintro ⟨e, _⟩; rw [e] at hx; simp only [lightV, binBV] at h; split at h <;> first | cases h | (rename_i e1 e2; rw [e1] at hx; cases hx)
      · rintro ⟨p, q, e, _⟩; rw [e] at hx; simp only [lightV, binBV] at h; split at h <;> first | cases h | (rename_i e1 e2; rw [e1] at hx; cases hx)
    · split at h
      · rename_i hb
        refine fin (binN_sound hT hb h hx hy) ?_ ?_
        · rintro ⟨_, e⟩; rw [e] at hy; simp only [lightV, binNV] at h; split at h <;> first | cases h | (rename_i e1; rw [e1] at hy; cases hy)
        · rintro ⟨p, q, _, e⟩; rw [e] at hy; simp only [lightV, binNV] at h; split at h <;> first | cases h | (rename_i e1; rw [e1] at hy; cases hy)
      · split at h
        · rename_i nf hnf
          obtain ⟨r, h1, h2⟩ := binA_sound hT (x := x) (y := y) hnf h hx hy
          exact ⟨r, fun w' => by simp only [execOp, Sem.run_bind, (h1 w').1, Result.andThen_ok, (h1 w').2, Sem.run_pure], h2⟩
        · refine fin (bin_sound h hx hy) ?_ ?_
          · rintro ⟨e, _⟩; rw [e] at hx; simp only [lightV, binV] at h; split at h <;> first | cases h | (rename_i e1; rw [e1] at hx; cases hx)
          · rintro ⟨p, q, e, _⟩; rw [e] at hx; simp only [lightV, binV] at h; split at h <;> first | cases h | (rename_i e1; rw [e1] at hx; cases hx)
  | unOp op ty x => exact val (un_sound h (ht.rv x))
  | convert s d x =>
    simp only [resO] at h
    split at h
    · rename_i hs hd
      simp only [lightV] at h
      have hx := ht.rv x
      split at h
      · rename_i q hq
        rw [hq] at hx
        have hx := hx.i_inv
        simp only [Option.some.injEq] at h
        subst h
        refine ⟨_, fun w' => ?_, .i _ _⟩
        simp [execOp, hx, convert, run_underlying (kindT_spec hT hs), run_underlying (kindT_spec hT hd), Conv.intToInt]
        rfl
      · cases h
    · split at h
      · cases h
      · split at h <;> cases h
  | makeFunc fn first cap =>
    cases fn with
    | func g =>
      simp only [resO] at h
      split at h
      · rename_i hf
        have : first = #[] := by simpa using hf
        subst this
        simp only [lightV, Option.some.injEq] at h
        subst h
        refine ⟨.func (.func g) #[] (cap.map a.eval), fun w' => by simp [execOp, Instr.makeFunc], ?_⟩
        have := VR.fn (w := w) (M := M) (J := J) g ((cap.toList.map rx).map (rv t)) (cap.map a.eval).toList (by simp) (by
          intro j y u hy hu
          simp only [List.map_map, List.getElem?_map, Array.toList_map, Option.map_eq_some_iff] at hy hu
          obtain ⟨q, hq, rfl⟩ := hy
          obtain ⟨q', hq', rfl⟩ := hu
          rw [hq] at hq'
          cases hq'
          exact ht.rv q)
        rw [Array.toArray_toList] at this
        exact this
      · cases h
    | _ => cases h
  | slice ty x lo hi mx =>
    simp only [resO] at h
    split at h
    · rename_i e he
      cases hz : sz T e with
      | none => rw [hz] at h; cases h
      | some z =>
        rw [hz] at h
        exact val (cutL_sound hT he hz h (ht.rv x) (OR.of ht lo) (OR.of ht hi) (OR.of ht mx))
    · split at h
      · rename_i hs
        obtain ⟨hs, hm⟩ := hs
        have hm : mx = none := by simpa using hm
        subst hm
        exact val (cutS_sound hT hs h (ht.rv x) (OR.of ht lo) (OR.of ht hi))
      · cases h
  | fieldAddr S x f =>
    simp only [resO] at h
    cases hf : fieldT T S f with
    | none => rw [hf] at h; cases h
    | some fd =>
      rw [hf] at h
      cases hz : sz T fd.1 with
      | none => rw [Option.bind_some, hz] at h; cases h
      | some z =>
        rw [Option.bind_some, hz, Option.bind_some] at h
        split at h
        · cases h
        · rename_i h0
          exact val (fieldA_sound hT hf hz h0 h (ht.rv x))
  | field S x f =>
    simp only [resO] at h
    cases hf : fieldT T S f with
    | none => rw [hf] at h; cases h
    | some fd =>
      rw [hf] at h
      cases hz : sz T fd.1 with
      | none => rw [Option.bind_some, hz] at h; cases h
      | some z =>
        rw [Option.bind_some, hz] at h
        exact val (fieldV_sound hT hf hz h (ht.rv x))
  | indexAddr ty x ix =>
    simp only [resO] at h
    cases he : elemT T ty with
    | none => rw [he] at h; cases h
    | some e =>
      rw [he] at h
      cases hz : sz T e with
      | none => rw [Option.bind_some, hz] at h; cases h
      | some z =>
        rw [Option.bind_some, hz] at h
        exact val (indexA_sound hT he hz h (ht.rv x) (ht.rv ix))
  | index ty x ix =>
    simp only [resO] at h
    split at h
    · rename_i hs
      exact val (indexS_sound hT hs h (ht.rv x) (ht.rv ix))
    · cases h
  | extract x ix =>
    simp only [resO, lightV] at h
    have hx := ht.rv x
    split at h
    · rename_i vs hq
      rw [hq] at hx
      exact val (ext_sound h hx)
    · cases h
  | call c =>
    obtain ⟨callee, args, tys⟩ := c
    simp only [resO] at h
    cases callee with
    | value f => cases h
    | invoke r m => cases h
    | builtin b =>
      have vs : ∀ (n : Nat) (y : V) (u : Value), ((args.toList.map rx).map (rv t))[n]? = some y → (args.map a.eval).toList[n]? = some u → VR w M J y u := by
        intro n y u hy hu
        simp only [List.map_map, List.getElem?_map, Array.toList_map, Option.map_eq_some_iff] at hy hu
        obtain ⟨q, hq, rfl⟩ := hy
        obtain ⟨q', hq', rfl⟩ := hu
        rw [hq] at hq'
        cases hq'
        exact ht.rv q
      have hlen : (args.map a.eval).toList.length = ((args.toList.map rx).map (rv t)).length := by simp
      have best : ∀ (mn : Bool), b = (if mn = true then .min else .max) → lightV (.best mn (args.toList.map rx)) t = some v → ∃ r, (∀ w', (execOp a.eval { dst := dst, op := .call { callee := .builtin b, args := args, argTypes := tys }, type := type, pos := pos, after := after, guard := guard }).run P w' = .ok (.value r) w') ∧ VR w M J v r := by
        intro mn hb hl
        simp only [lightV] at hl
        generalize (args.toList.map rx).map (rv t) = xs at hl vs hlen
        cases xs with
        | nil => cases hl
        | cons x xs =>
          match hus : (args.map a.eval).toList, hlen with
          | u :: us, hlen =>
            rw [hus] at vs
            have h0 := vs 0 x u rfl rfl
            cases x with
            | i k n =>
              have := h0.i_inv
              subst this
              obtain ⟨r, h1, h2⟩ := best_sound (P := P) (mn := mn) xs k n v us hl (by simpa using hlen) fun j x u hx hu => vs (j + 1) x u (by simpa using hx) (by simpa using hu)
              refine ⟨r, fun w' => ?_, h2⟩
              have h1' := h1 w'
              cases mn with
              | true =>
                simp only [if_true] at hb h1'
                subst hb
                simp only [execOp, resolve, Sem.run_bind, Sem.run_pure, Result.andThen_ok, invoke, builtin, Builtin.min_, hus, h1']
              | false =>
                simp only [Bool.false_eq_true, if_false] at hb h1'
                subst hb
                simp only [execOp, resolve, Sem.run_bind, Sem.run_pure, Result.andThen_ok, invoke, builtin, Builtin.max_, hus, h1']
            | _ => cases xs <;> simp [bestV] at hl
      replace h : lightV (resB T b (args.toList.map rx) tys.toList) t = some v := h
      unfold resB at h
      split at h
      · rename_i x hx
        split at h
        · rename_i ty hty
          obtain ⟨y, rfl, rfl⟩ : ∃ y, args = #[y] ∧ rx y = x := by
            have : args.toList.length = 1 := by have := congrArg List.length hx; simpa using this
            match hq : args.toList, this with
            | [y], _ =>
              rw [hq] at hx
              exact ⟨y, by rw [← Array.toArray_toList (xs := args), hq], by simpa using hx⟩
          obtain rfl : tys = #[ty] := by rw [← Array.toArray_toList (xs := tys), hty]
          have run : ∀ {s : Sem Value}, (∃ r, (∀ w', (Builtin.len_ #[ty] type #[a.eval y]).run P w' = .ok r w') ∧ VR w M J v r) → ∃ r, (∀ w', (execOp a.eval { dst := dst, op := .call { callee := .builtin .len, args := #[y], argTypes := #[ty] }, type := type, pos := pos, after := after, guard := guard }).run P w' = .ok (.value r) w') ∧ VR w M J v r := by
            rintro _ ⟨r, h1, h2⟩
            exact ⟨r, fun w' => by simp [execOp, resolve, invoke, builtin, h1 w'], h2⟩
          split at h
          · rename_i hs
            exact run (s := pure undef) (len_sound (str := true) hT (by simpa using hs) h (ht.rv y))
          · split at h
            · rename_i hs
              exact run (s := pure undef) (len_sound (str := false) hT (by simpa using hs) h (ht.rv y))
            · cases h
        · cases h
      · exact best true rfl h
      · exact best false rfl h
      · split at h
        · rename_i ty ty' _
          generalize hq : (elemT T ty).bind _ = q at h
          cases q with
          | none => cases h
          | some ro =>
            simp only [Option.bind_eq_some_iff] at hq
            obtain ⟨_, _, _, _, _, _, _, _, hq⟩ := hq
            split at hq
            · cases hq
            · split at hq
              · cases hq; cases h
              · cases hq
        · cases h
      · cases h
  | alloc e =>
    simp only [resO] at h
    cases hq : zeroT T e with
    | none => rw [hq] at h; cases h
    | some z => rw [hq] at h; cases h
  | box e x => cases h
  | buildSlice e l ps =>
    simp only [resO] at h
    cases hq : (elemT T e).bind fun e => (sz T e).bind fun z => (zeroT T e).map fun zero => RO.buildS e z zero l (ps.toList.map fun q => (q.1, rx q.2)) with
    | none => rw [hq] at h; cases h
    | some ro =>
      rw [hq] at h
      simp only [Option.bind_eq_some_iff, Option.map_eq_some_iff] at hq
      obtain ⟨_, _, _, _, _, _, rfl⟩ := hq
      cases h
  | load e x =>
    simp only [resO] at h
    cases hq : sz T e with
    | none => rw [hq] at h; cases h
    | some z => rw [hq] at h; cases h
  | store e x y =>
    simp only [resO] at h
    cases hq : sz T e with
    | none => rw [hq] at h; cases h
    | some z => rw [hq] at h; cases h
  | makeSlice e l c =>
    simp only [resO] at h
    cases hq : (elemT T e).bind fun e => (sz T e).bind fun z => (zeroT T e).bind fun zero => (bytesT T e).map fun by_ => RO.mkS e z by_ zero (rx l) (rx c) with
    | none => rw [hq] at h; cases h
    | some ro =>
      rw [hq] at h
      simp only [Option.bind_eq_some_iff, Option.map_eq_some_iff] at hq
      obtain ⟨_, _, _, _, _, _, _, _, rfl⟩ := hq
      cases h
  | _ => cases h

end
end Go.Am

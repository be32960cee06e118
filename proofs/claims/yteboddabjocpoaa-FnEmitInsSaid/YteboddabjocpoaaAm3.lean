/- All operations are sound. -/
import Derived.Test.YteboddabjocpoaaAm2
set_option linter.all false
namespace Go.Am
section
variable {P : Program} {T : Types}

theorem opV_light {ro : RO} {t : List V} {u : V} (H : Heap) (h : lightV ro t = some u) : opV ro t H = some (u, H) := by
  cases ro <;> first
    | (simp only [opV, h, Option.map_some]; done)
    | (simp [lightV] at h; done)

theorem op_ok0 (hT : TypesOk P T) (o : Oper) (a : Act) (w : World) (M : List RI) (J : Nat → Prop) (t : List V) (H : Heap) (v : V) (H' : Heap) (h : opV (resO T o.op) t H = some (v, H')) (hh : HR w M J H) (ht : TR w M J t a) :
    ∃ x w' M', (execOp a.eval o).run P w = .ok x w' ∧ ((∃ u, x = .value u ∧ VR w' M' J v u) ∨ (x = .skip ∧ v = .un)) ∧ HR w' M' J H' ∧ Goes w M w' M' := by
  cases hl : lightV (resO T o.op) t with
  | some u =>
    rw [opV_light H hl] at h
    cases h
    obtain ⟨r, h1, h2⟩ := light_sound hT o hl ht
    exact ⟨_, w, M, h1 w, .inl ⟨r, rfl, h2⟩, hh, Goes.refl w M⟩
  | none =>
    obtain ⟨dst, op, type, pos, after, guard⟩ := o
    simp only at h hl
    have val : ∀ {s : Sem Value}, (∃ u w' M', s.run P w = .ok u w' ∧ VR w' M' J v u ∧ HR w' M' J H' ∧ Goes w M w' M') →
        ∃ x w' M', (do pure (Next.value (← s)) : Sem Next).run P w = .ok x w' ∧ ((∃ u, x = .value u ∧ VR w' M' J v u) ∨ (x = .skip ∧ v = .un)) ∧ HR w' M' J H' ∧ Goes w M w' M' := by
      rintro s ⟨u, w', M', h1, h2, h3, h4⟩
      exact ⟨.value u, w', M', by simp [h1], .inl ⟨u, rfl, h2⟩, h3, h4⟩
    have light : ∀ ro, resO T op = ro → opV ro t H = (lightV ro t).map (fun v => (v, H)) → False := by
      rintro ro rfl e
      rw [e, hl] at h
      cases h
    cases op with
    | alloc e =>
      simp only [resO] at h
      cases hz : zeroT T e with
      | none => rw [hz] at h; cases h
      | some zs => rw [hz] at h; exact val (alloc_sound hT hh hz h)
    | box e x => exact val (box_sound hh h (ht.rv x))
    | buildSlice ty len ps =>
      simp only [resO] at h
      cases he : elemT T ty with
      | none => rw [he] at h; cases h
      | some e =>
        cases hz : sz T e with
        | none => rw [he, Option.bind_some, hz] at h; cases h
        | some z =>
          cases h0 : zeroT T e with
          | none => rw [he, Option.bind_some, hz, Option.bind_some, h0] at h; cases h
          | some zero =>
            rw [he, Option.bind_some, hz, Option.bind_some, h0] at h
            exact val (buildS_sound hT hh he hz h0 h ht)
    | load ty x =>
      simp only [resO] at h
      cases hz : sz T ty with
      | none => rw [hz] at h; cases h
      | some z =>
        rw [hz] at h
        simp only [Option.map_some, orBad, opV, Option.map_eq_some_iff, Prod.mk.injEq] at h
        obtain ⟨v', hv, rfl, rfl⟩ := h
        obtain ⟨r, h1, h2⟩ := load_sound hT hh hz hv (ht.rv x)
        exact val ⟨r, w, M, h1, h2, hh, Goes.refl w M⟩
    | store ty x y =>
      simp only [resO] at h
      cases hz : sz T ty with
      | none => rw [hz] at h; cases h
      | some z =>
        rw [hz] at h
        simp only [Option.map_some, orBad, opV, Option.map_eq_some_iff, Prod.mk.injEq] at h
        obtain ⟨H2, hv, rfl, rfl⟩ := h
        obtain ⟨w', h1, h2, h3⟩ := store_sound hT hh hz hv (ht.rv x) (ht.rv y)
        exact ⟨.skip, w', M, by simp [execOp, h1], .inr ⟨rfl, rfl⟩, h2, h3⟩
    | convert s d x =>
      simp only [resO] at h
      split at h
      · rename_i e1 e2
        exfalso
        refine light _ (by simp only [resO]; rw [e1, e2]) ?_
        rfl
      · split at h
        · rename_i hc
          simp only [opV] at h
          have hx := ht.rv x
          split at h
          · rename_i c hq
            rw [hq] at hx
            have hx := hx.s_inv
            split at h
            · rename_i hr
              cases h
              obtain ⟨u, w', k1, k2, k3, k4⟩ := s2b_sound hT hh hc.2 hc.1 hr
              exact val (s := convert s d (a.eval x)) ⟨u, w', M, by rw [hx]; exact k1, k2, k3, k4⟩
            · cases h
          · cases h
        · split at h
          · rename_i hc
            simp only [opV, Option.bind_eq_some_iff, Option.map_eq_some_iff, Prod.mk.injEq] at h
            obtain ⟨es, he, c, hcc, rfl, rfl⟩ := h
            exact val (s := convert s d (a.eval x)) ⟨_, w, M, b2s_sound hT hh hc.1 hc.2 he hcc (ht.rv x), .s _, hh, Goes.refl w M⟩
          · cases h
    | makeSlice ty l c =>
      simp only [resO] at h
      cases he : elemT T ty with
      | none => rw [he] at h; cases h
      | some e =>
        cases hz : sz T e with
        | none => rw [he, Option.bind_some, hz] at h; cases h
        | some z =>
          cases h0 : zeroT T e with
          | none => rw [he, Option.bind_some, hz, Option.bind_some, h0] at h; cases h
          | some zero =>
            cases hb : bytesT T e with
            | none => rw [he, Option.bind_some, hz, Option.bind_some, h0, Option.bind_some, hb] at h; cases h
            | some by_ =>
              rw [he, Option.bind_some, hz, Option.bind_some, h0, Option.bind_some, hb] at h
              exact val (make_sound hT hh he hz hb h0 h (ht.rv l) (ht.rv c))
    | call c =>
      obtain ⟨callee, args, tys⟩ := c
      cases callee with
      | value f => cases h
      | invoke r m => cases h
      | builtin b =>
        replace h : opV (resB T b (args.toList.map rx) tys.toList) t H = some (v, H') := h
        replace hl : lightV (resB T b (args.toList.map rx) tys.toList) t = none := hl
        generalize hq0 : resB T b (args.toList.map rx) tys.toList = ro0 at h hl
        unfold resB at hq0
        split at hq0
        · split at hq0
          · split at hq0
            · subst hq0; simp only [opV] at h; rw [hl] at h; cases h
            · split at hq0
              · subst hq0; simp only [opV] at h; rw [hl] at h; cases h
              · subst hq0; cases h
          · subst hq0; cases h
        · subst hq0; simp only [opV] at h; rw [hl] at h; cases h
        · subst hq0; simp only [opV] at h; rw [hl] at h; cases h
        · rename_i s x hargs
          obtain ⟨y1, y2, rfl, rfl, rfl⟩ : ∃ y1 y2, args = #[y1, y2] ∧ rx y1 = s ∧ rx y2 = x := by
            have : args.toList.length = 2 := by have := congrArg List.length hargs; simpa using this
            match hq : args.toList, this with
            | [y1, y2], _ =>
              rw [hq] at hargs
              simp only [List.map_cons, List.map_nil, List.cons.injEq, and_true] at hargs
              exact ⟨y1, y2, by rw [← Array.toArray_toList (xs := args), hq], hargs.1, hargs.2⟩
          split at hq0
          · rename_i ty ty' htys
            subst hq0
            obtain rfl : tys = #[ty, ty'] := by rw [← Array.toArray_toList (xs := tys), htys]
            generalize hq : (elemT T ty).bind _ = q at h
            cases q with
            | none => cases h
            | some ro =>
              simp only [Option.bind_eq_some_iff] at hq
              obtain ⟨e, he, z, hz, by_, hb, zero, h0, hq⟩ := hq
              split at hq
              · cases hq
              · rename_i hzl
                split at hq
                · rename_i hty
                  subst hty
                  cases hq
                  simp only [orBad, opV, Option.bind_eq_some_iff] at h
                  obtain ⟨xs, hxs, h⟩ := h
                  obtain ⟨u, w', M', k1, k2, k3, k4⟩ := append_sound (P := P) (ty := type) hT hh he hz hb h0 (by simpa using hzl) hxs h (ht.rv y1) (ht.rv y2)
                  exact ⟨.value u, w', M', by simp [execOp, resolve, invoke, builtin, k1], .inl ⟨u, rfl, k2⟩, k3, k4⟩
                · cases hq
          · subst hq0; cases h
        · subst hq0; cases h
    | move x => exact (light _ rfl rfl).elim
    | assign x => exact (light _ rfl rfl).elim
    | pick c x y => exact (light _ rfl rfl).elim
    | build ty ps =>
      exfalso
      simp only [resO] at h hl
      generalize hq : (zeroT T ty).bind _ = q at h hl
      cases q with
      | none => cases h
      | some ro =>
        simp only [Option.bind_eq_some_iff, Option.map_eq_some_iff] at hq
        obtain ⟨_, _, _, _, _, _, rfl⟩ := hq
        simp only [orBad, opV] at h hl
        rw [hl] at h
        cases h
    | nilCheck x => exact (light _ rfl rfl).elim
    | binOp op ty x y ty' =>
      exfalso
      simp only [resO] at h hl
      split at h
      · rename_i e; rw [if_pos e] at hl; simp only [opV] at h; rw [hl] at h; cases h
      · rename_i e
        rw [if_neg e] at hl
        split at h
        · rename_i e; rw [if_pos e] at hl; simp only [opV] at h; rw [hl] at h; cases h
        · rename_i e
          rw [if_neg e] at hl
          cases hq : eqiT T ty with
          | some nf => simp only [hq] at h hl; simp only [opV] at h; rw [hl] at h; cases h
          | none => simp only [hq] at h hl; simp only [opV] at h; rw [hl] at h; cases h
    | unOp op ty x => exact (light _ rfl rfl).elim
    | makeFunc fn first cap =>
      exfalso
      cases fn with
      | func g =>
        simp only [resO] at h hl
        split at h
        · rename_i e; rw [if_pos e] at hl; simp only [opV] at h; rw [hl] at h; cases h
        · cases h
      | _ => cases h
    | slice ty x lo hi mx =>
      exfalso
      simp only [resO] at h hl
      split at h
      · rename_i e he
        simp only [he] at hl
        cases hz : sz T e with
        | none => rw [hz] at h; cases h
        | some z =>
          rw [hz] at h hl
          simp only [Option.map_some, orBad, opV] at h hl
          rw [hl] at h
          cases h
      · rename_i he
        simp only [he] at hl
        split at h
        · rename_i e; rw [if_pos e] at hl; simp only [opV] at h; rw [hl] at h; cases h
        · cases h
    | fieldAddr S x f =>
      exfalso
      simp only [resO] at h hl
      generalize hq : (fieldT T S f).bind _ = q at h hl
      cases q with
      | none => cases h
      | some ro =>
        simp only [Option.bind_eq_some_iff] at hq
        obtain ⟨_, _, _, _, hq⟩ := hq
        split at hq
        · cases hq
        · cases hq
          simp only [orBad, opV] at h hl
          rw [hl] at h
          cases h
    | field S x f =>
      exfalso
      simp only [resO] at h hl
      generalize hq : (fieldT T S f).bind _ = q at h hl
      cases q with
      | none => cases h
      | some ro =>
        simp only [Option.bind_eq_some_iff, Option.map_eq_some_iff] at hq
        obtain ⟨_, _, _, _, rfl⟩ := hq
        simp only [orBad, opV] at h hl
        rw [hl] at h
        cases h
    | indexAddr ty x ix =>
      exfalso
      simp only [resO] at h hl
      generalize hq : (elemT T ty).bind _ = q at h hl
      cases q with
      | none => cases h
      | some ro =>
        simp only [Option.bind_eq_some_iff, Option.map_eq_some_iff] at hq
        obtain ⟨_, _, _, _, rfl⟩ := hq
        simp only [orBad, opV] at h hl
        rw [hl] at h
        cases h
    | index ty x ix =>
      exfalso
      simp only [resO] at h hl
      split at h
      · rename_i e; rw [if_pos e] at hl; simp only [opV] at h; rw [hl] at h; cases h
      · cases h
    | extract x ix => exact (light _ rfl rfl).elim
    | _ => cases h

theorem op_ok (hT : TypesOk P T) : OpOk P T := by
  intro lit o a w M J t H v H' h hh ht
  rcases resL_eq lit (resO T o.op) with e | ⟨e, z, zero, len, ps, hr, hc⟩
  · rw [e] at h
    exact op_ok0 hT o a w M J t H v H' h hh ht
  · obtain ⟨dst, op, type, pos, after, guard⟩ := o
    simp only at h hr hc
    have inv : ∃ ty ps', op = .buildSlice ty len ps' ∧ elemT T ty = some e ∧ sz T e = some z ∧ zeroT T e = some zero ∧ ps = ps'.toList.map fun q => (q.1, rx q.2) := by
      have ob : ∀ q : Option RO, orBad q = .buildS e z zero len ps → q = some (.buildS e z zero len ps) := by
        intro q hq
        cases q with
        | none => cases hq
        | some r => exact congrArg some hq
      cases op <;> try (cases hr; done)
      case buildSlice ty l ps' =>
        have := ob _ hr
        simp only [Option.bind_eq_some_iff, Option.map_eq_some_iff] at this
        obtain ⟨e', h1, z', h2, zero', h3, h4⟩ := this
        cases h4
        exact ⟨ty, ps', rfl, h1, h2, h3, rfl⟩
      all_goals exfalso
      all_goals (first
        | (have := ob _ hr; simp only [Option.bind_eq_some_iff, Option.map_eq_some_iff] at this; obtain ⟨_, _, this⟩ := this; first | (cases this; done) | (obtain ⟨_, _, this⟩ := this; first | (cases this; done) | (obtain ⟨_, _, this⟩ := this; first | (cases this; done) | (obtain ⟨_, _, this⟩ := this; cases this))))
        | skip)
      case binOp => simp only [resO] at hr; split at hr <;> first | (cases hr; done) | (split at hr <;> first | (cases hr; done) | (split at hr <;> cases hr))
      case convert => simp only [resO] at hr; split at hr <;> first | (cases hr; done) | (split at hr <;> first | (cases hr; done) | (split at hr <;> cases hr))
      case makeFunc fn first cap =>
        cases fn with
        | func g => simp only [resO] at hr; split at hr <;> cases hr
        | _ => cases hr
      case slice =>
        simp only [resO] at hr
        split at hr
        · have := ob _ hr; simp only [Option.map_eq_some_iff] at this; obtain ⟨_, _, this⟩ := this; cases this
        · split at hr <;> cases hr
      case fieldAddr =>
        have := ob _ hr
        simp only [Option.bind_eq_some_iff] at this
        obtain ⟨_, _, _, _, this⟩ := this
        split at this <;> cases this
      case index => simp only [resO] at hr; split at hr <;> cases hr
      case call c =>
        simp only [resO] at hr
        cases hcc : c.callee with
        | value x => simp only [hcc] at hr; cases hr
        | invoke r m => simp only [hcc] at hr; cases hr
        | builtin b =>
          simp only [hcc] at hr
          unfold resB at hr
          split at hr
          · split at hr
            · split at hr
              · cases hr
              · split at hr <;> cases hr
            · cases hr
          · cases hr
          · cases hr
          · split at hr
            · have := ob _ hr
              simp only [Option.bind_eq_some_iff] at this
              obtain ⟨_, _, _, _, _, _, _, _, this⟩ := this
              split at this
              · cases this
              · split at this <;> cases this
            · cases hr
          · cases hr
    obtain ⟨ty, ps', rfl, h1, h2, h3, rfl⟩ := inv
    rcases hc with ⟨hc, rfl, hps⟩ | ⟨hc, hl⟩
    · have hps' : ps' = #[] := by
        cases hq : ps'.toList with
        | nil => rw [← Array.toArray_toList (xs := ps'), hq]
        | cons p rest => rw [hq] at hps; cases hps
      subst hps'
      rw [hc] at h
      cases h
      obtain ⟨u, w', k1, k2, k3, k4⟩ := nul_sound (w := w) (a := a) hT hh h1 h2
      refine ⟨.value u, w', M, ?_, .inl ⟨u, rfl, k2⟩, k3, k4⟩
      simp only [execOp, Sem.run_bind, k1, Result.andThen_ok, Sem.run_pure]
    · rw [hc] at h
      simp only [opV, Option.map_eq_some_iff, Prod.mk.injEq] at h
      obtain ⟨v', hv, rfl, rfl⟩ := h
      obtain ⟨u, w', k1, k2, k3, k4⟩ := lit_sound hT hh h1 h2 h3 hv ht
      exact ⟨.value u, w', M, by simp only [execOp, Sem.run_bind, k1, Result.andThen_ok, Sem.run_pure], .inl ⟨u, rfl, k2⟩, k3, k4⟩
end
end Go.Am

/- Bodies and calls are sound. -/
namespace Go.Am
section
variable {P : Program} {T : Types} {w : World} {M : List RI} {J : Nat → Prop} {H : Heap}

theorem loadAt_var {ty : TypeId} {a : Value} {r : Value} {w : World} (h : (Instr.loadAt ty a).run P w = .ok r w) : (do loadVar ty (← asAddr a) : Sem Value).run P w = .ok r w := by
  cases a with
  | pointer p =>
    cases p with
    | none => simp [Instr.loadAt, Instr.sureAddr] at h
    | some p => simpa [Instr.loadAt, Instr.sureAddr, asAddr] using h
  | _ => simp [Instr.loadAt, Instr.sureAddr] at h

theorem results_sound (hT : TypesOk P T) (hh : HR w M J H) {fn : Func} {rf : RF} {t : List V} {a : Act} {v : V} (hr : resF T fn = some rf) (h : resultsV rf.res t H = some v) (ht : TR w M J t a) :
    ∃ u, (results fn a.tmps).run P w = .ok u w ∧ VR w M J v u := by
  simp only [resF, Option.bind_eq_some_iff, Option.map_eq_some_iff] at hr
  obtain ⟨c, hc, rs, hrs, rfl⟩ := hr
  simp only [resultsV, Option.map_eq_some_iff] at h
  obtain ⟨vs, hvs, rfl⟩ := h
  obtain ⟨l1, s1⟩ := allM_spec hrs
  obtain ⟨l2, s2⟩ := allM_spec hvs
  have each : ∀ (n : Nat) (r : ResultVar), fn.results[n]? = some r → ∃ u x, (match r with
      | .tmp t => pure (a.tmps.getD t undef)
      | .cell b t => do loadVar t (← asAddr (a.tmps.getD b undef)) : Sem Value).run P w = .ok u w ∧ vs[n]? = some x ∧ VR w M J x u := by
    intro n r hn
    obtain ⟨b, hb, hb'⟩ := s1 n r (by simpa using hn)
    obtain ⟨x, hx, hx'⟩ := s2 n b hb'
    cases r with
    | tmp i =>
      cases hb
      simp only [resV, Option.some.injEq] at hx
      subst hx
      exact ⟨_, _, rfl, hx', ht.2.2 i⟩
    | cell b ty =>
      simp only [Option.map_eq_some_iff] at hb
      obtain ⟨z, hz, rfl⟩ := hb
      simp only [resV] at hx
      obtain ⟨u, k1, k2⟩ := load_sound hT hh hz hx (ht.2.2 b)
      exact ⟨u, x, loadAt_var k1, hx', k2⟩
  have hlen : vs.length = fn.results.size := by rw [l2, l1]; simp
  have : ∃ us : List Value, us.length = fn.results.size ∧ (∀ (n : Nat) (r : ResultVar) (u : Value), fn.results[n]? = some r → us[n]? = some u → (match r with
      | .tmp t => pure (a.tmps.getD t undef)
      | .cell b t => do loadVar t (← asAddr (a.tmps.getD b undef)) : Sem Value).run P w = .ok u w) ∧ ∀ (n : Nat) (x : V) (u : Value), vs[n]? = some x → us[n]? = some u → VR w M J x u := by
    have h' : ∀ n : Fin fn.results.size, ∃ u x, (match fn.results[n] with
      | .tmp t => pure (a.tmps.getD t undef)
      | .cell b t => do loadVar t (← asAddr (a.tmps.getD b undef)) : Sem Value).run P w = .ok u w ∧ vs[n.1]? = some x ∧ VR w M J x u := fun n => each n.1 _ (Array.getElem?_eq_getElem n.2)
    refine ⟨(List.finRange fn.results.size).map fun n => Classical.choose (h' n), by simp, fun n r u hn hu => ?_, fun n x u hx hu => ?_⟩
    · have hlt : n < fn.results.size := (Array.getElem?_eq_some_iff.1 hn).1
      have hu' : Classical.choose (h' ⟨n, hlt⟩) = u := by
        simpa [List.getElem?_eq_getElem, hlt] using hu
      obtain ⟨x, k1, _⟩ := Classical.choose_spec (h' ⟨n, hlt⟩)
      have he : fn.results[n] = r := (Array.getElem?_eq_some_iff.1 hn).2
      rw [hu'] at k1
      subst he
      exact k1
    · have hlt : n < fn.results.size := by rw [← hlen]; exact (List.getElem?_eq_some_iff.1 hx).1
      have hu' : Classical.choose (h' ⟨n, hlt⟩) = u := by
        simpa [List.getElem?_eq_getElem, hlt] using hu
      obtain ⟨x', _, k2, k3⟩ := Classical.choose_spec (h' ⟨n, hlt⟩)
      rw [hu'] at k3
      simp only at k2
      rw [hx] at k2
      cases k2
      exact k3
  obtain ⟨us, u1, u2, u3⟩ := this
  have hrun := run_mapM_array' (P := P) (w := w) (l := fn.results) (r := us) u1 (fun n r u hn hu => u2 n r u hn hu)
  have hus : us.length = vs.length := by omega
  have fin : (results fn a.tmps).run P w = .ok (if h : us.toArray.size = 1 then us.toArray[0] else .tuple us.toArray) w := by
    simp only [results, Sem.run_bind]
    exact congrArg (fun r => Result.andThen r fun vs w' => .ok (if h : vs.size = 1 then vs[0] else .tuple vs) w') hrun
  refine ⟨_, fin, ?_⟩
  clear fin hrun u1 u2 each hvs l2 s2 hlen
  match vs, us, hus, u3 with
  | [], [], _, _ => exact .tup [] [] rfl (by simp)
  | [x], [u], _, u3 => exact u3 0 x u rfl rfl
  | x :: y :: vs, u :: u' :: us, hus, u3 =>
    have : ¬ (u :: u' :: us).toArray.size = 1 := by simp
    rw [dif_neg this]
    exact .tup _ _ hus u3

theorem body_sound {C : Call1} (hT : TypesOk P T) (hC : CallOk P C) {f k : Nat} {fn : Func} {rf : RF} (hf : P.funcs[f]? = some fn) (hr : resF T fn = some rf) {args : List V} {vals : Array Value} {K : V → Heap → Prop} (h : bodyP C k rf args H K)
    (hh : HR w M J H) (hl : args.length = vals.size) (ha : ∀ (n : Nat) (x : V) (v : Value), args[n]? = some x → vals[n]? = some v → VR w M J x v) : Calls P f vals w (CPost K J w M) := by
  have hr' := hr
  simp only [resF, Option.bind_eq_some_iff, Option.map_eq_some_iff] at hr'
  obtain ⟨c, hc, rs, hrs, he⟩ := hr'
  have hb : rf.body = resC T c := by rw [← he]
  have hn : rf.ntmps = fn.ntmps := by rw [← he]
  refine calls_of_wp hf hc ?_
  have ht : TR w M J (frame rf args) { tmps := vals ++ Array.replicate (fn.ntmps - vals.size) undef, defers := [] } := by
    refine ⟨rfl, by simp [frame, hn, hl], fun n => ?_⟩
    rw [List.getD_eq_getElem?_getD, Array.getD_eq_getD_getElem?]
    simp only [frame, hn]
    rw [List.getElem?_append, Array.getElem?_append]
    by_cases hlt : n < args.length
    · have hlt' : n < vals.size := by omega
      rw [if_pos hlt, if_pos hlt']
      rw [List.getElem?_eq_getElem hlt, Array.getElem?_eq_getElem hlt']
      exact ha n _ _ (List.getElem?_eq_getElem hlt) (Array.getElem?_eq_getElem hlt')
    · have hlt' : ¬ n < vals.size := by omega
      rw [if_neg hlt, if_neg hlt', List.getElem?_replicate, Array.getElem?_replicate, hl]
      split <;> exact .un
  unfold bodyP at h
  rw [hb] at h
  refine wp_mono (run_sound (op_ok hT) hC k c _ _ H _ w M h hh ht) fun e a' w' hq => ?_
  have fin : Post (endP rf K .n) J w M a' w' → a'.defers = [] ∧ ∃ v, (results fn a'.tmps).run P w' = .ok v w' ∧ CPost K J w M (.returned v) w' := by
    rintro ⟨t', H', M', hk, hh', ht', hg'⟩
    simp only [endP] at hk
    split at hk
    · rename_i v hv
      obtain ⟨u, k1, k2⟩ := results_sound hT hh' hr hv ht'
      exact ⟨ht'.1, u, k1, v, H', M', hk, hh', k2, hg'⟩
    · exact hk.elim
  cases e with
  | normal => exact fin hq
  | ret => exact fin hq
  | exit id =>
    obtain ⟨t', H', M', hk, _⟩ := hq
    exact hk.elim
  | _ => exact hq.elim

end
end Go.Am

/- Seals are sound. -/
namespace Go.Am
section
variable {w : World} {M M0 : List RI} {J J0 : Nat → Prop} {H : Heap} {wo own lent : Bool}

structure SealOk (w : World) (M : List RI) (J : Nat → Prop) (M0 : List RI) (J0 : Nat → Prop) (wo own lent : Bool) : Prop where
  rows : own = true → ∀ m ∈ M, OkB M0 J0 wo m.g
  tls : ∀ (wl : Bool) (g : Nat), OkB M J wl g → (wl = true → lent = true) → OkB M0 J0 wo g

theorem elemsIn_elems {z : Nat} {v : V} {es : List (List V)} (h : elemsIn own lent H z v = some es) : elems H z v = some es := by
  unfold elemsIn at h
  split at h
  · cases own <;> first | exact h | cases h
  · cases own <;> first | exact h | cases h
  · split at h <;> first | cases h | exact h
  · exact h
  · exact h
  · cases h

theorem elemsIn_spec (hh : HR w M J H) (hs : SealOk w M J M0 J0 wo own lent) {z : Nat} {v : V} {u : Value} {es : List (List V)} (h : elemsIn own lent H z v = some es) (hv : VR w M J v u) :
    ∃ a c, u = .slice a es.length c ∧ es.length ≤ c ∧ (∀ (i : Nat) (cs : List V), es[i]? = some cs → cs.length = z) ∧ (es ≠ [] → ∃ g o, a = some ⟨g, o, none⟩ ∧ OkB M0 J0 wo g ∧ 0 < z ∧
      ∀ (i j : Nat) (cs : List V) (y : V), es[i]? = some cs → cs[j]? = some y → ∃ v, w.cell? ⟨g, o + (i * z + j), none⟩ = some v ∧ VR w M J y v ∧ v.oneCell' = true) := by
  obtain ⟨a, c, rfl, hc, hat⟩ := elems_spec hh (elemsIn_elems h) hv
  refine ⟨a, c, rfl, hc, hat.sz, fun hne => ?_⟩
  obtain ⟨g, o, rfl, hcell⟩ := hat.at_ hne
  have rowcase : ∀ (r z' n : Nat) (R : Row), row? H r = some R → n = R.es.length → own = true → R.z = z → (∀ m, M[r]? = some m → n = m.len → m.g = g) → OkB M0 J0 wo g ∧ 0 < z := by
    intro r z' n R hR hn ho hz hg
    obtain ⟨m, cur, hm, hr⟩ := hh.row r R hR
    have : m.g = g := hg m hm (by rw [hn, hr.len])
    exact ⟨this ▸ hs.rows ho m (List.mem_of_getElem? hm), hz ▸ hr.pos⟩
  have fin : OkB M0 J0 wo g ∧ 0 < z := by
    unfold elemsIn at h
    split at h
    · rename_i r z' n
      cases hov : own with
      | false => rw [hov] at h; cases h
      | true =>
        rw [hov] at h
        simp only [elems, Option.bind_eq_some_iff] at h
        obtain ⟨R, hR, h⟩ := h
        split at h
        · rename_i hcnd
          split at h
          · rename_i hq
            unfold qsame at hq
            cases hv with
            | rw _ _ _ m g' c' hm hmz hn hcc ha =>
              exact rowcase r z' _ R hR (of_decide_eq_true hq) hov hcnd.1 fun m' hm' e => by rw [hm] at hm'; cases hm'; exact (ha e).1.symm
          · cases h
        · cases h
    · rename_i r z' n off len
      cases hov : own with
      | false => rw [hov] at h; cases h
      | true =>
        rw [hov] at h
        simp only [elems, Option.bind_eq_some_iff] at h
        obtain ⟨R, hR, h⟩ := h
        split at h
        · rename_i hcnd
          split at h
          · rename_i hq
            unfold qsame at hq
            cases hv with
            | sl _ _ _ _ _ m g' o' c' hm hmz hn hl hcc ha =>
              exact rowcase r z' _ R hR (of_decide_eq_true hq) hov hcnd.1 fun m' hm' e => by rw [hm] at hm'; cases hm'; exact (ha e).1.symm
          · cases h
        · cases h
    · rename_i wl z' es'
      have hz : z' = z ∧ es' = es := by
        split at h
        · cases h
        · simp only [elems] at h
          split at h
          · rename_i e; cases h; exact ⟨e, rfl⟩
          · cases h
      obtain ⟨rfl, rfl⟩ := hz
      have hw : wl = true → lent = true := by
        intro e
        subst e
        cases lent with
        | true => rfl
        | false => simp at h
      cases hv with
      | tl _ _ _ _ _ g' o' f ha hcc hzz hcl hvv =>
        obtain ⟨a1, a2, a3⟩ := ha hne
        cases a1
        exact ⟨hs.tls wl _ a2 hw, a3⟩
    · cases h; exact absurd rfl hne
    · cases h; exact absurd rfl hne
    · cases h
  exact ⟨g, o, rfl, fin.1, fin.2, hcell⟩

mutual
theorem sealV_sound (hh : HR w M J H) (hs : SealOk w M J M0 J0 wo own lent) : ∀ (sh : Sh) (v v' : V) (u : Value), sealV wo own lent H sh v = some v' → VR w M J v u → VR w M0 J0 v' u
  | .at_, v, v', u, h, hv => by
    simp only [sealV] at h
    split at h
    · rename_i hp
      cases h
      unfold plainV at hp
      split at hp
      · cases hv; exact .i _ _
      · cases hv; exact .b _
      · cases hv; exact .s _
      · cases hv; exact .np
      · cases hv with
        | fn f _ vs hl hvv =>
          have : vs = [] := List.eq_nil_of_length_eq_zero (by simpa using hl)
          subst this
          exact .fn _ [] [] rfl (by simp)
      · cases hp
    · cases h
  | .li cs, v, v', u, h, hv => by
    simp only [sealV, Option.bind_eq_some_iff, Option.map_eq_some_iff] at h
    obtain ⟨es, hes, es', hes', rfl⟩ := h
    obtain ⟨a, c, rfl, hc, hz, hat⟩ := elemsIn_spec hh hs hes hv
    obtain ⟨l1, s1⟩ := allM_spec hes'
    have back : ∀ (i : Nat) (c' : List V), es'[i]? = some c' → ∃ c, es[i]? = some c ∧ sealCs wo own lent H cs c = some c' := by
      intro i c' hi
      have hlt : i < es.length := by rw [← l1]; exact (List.getElem?_eq_some_iff.1 hi).1
      obtain ⟨b, hb, hb'⟩ := s1 i _ (List.getElem?_eq_getElem hlt)
      rw [hi] at hb'
      cases hb'
      exact ⟨_, List.getElem?_eq_getElem hlt, hb⟩
    by_cases hne : es = []
    · subst hne
      have : es' = [] := List.eq_nil_of_length_eq_zero (by simpa using l1)
      subst this
      exact .tl wo cs.length [] a c 0 0 (fun _ _ => undef) (fun h => absurd rfl h) (Nat.zero_le _) (by simp) (by simp) (by simp)
    · obtain ⟨g, o, rfl, hok, hpos, hcell⟩ := hat hne
      have hf : ∀ i j, ∃ x : Value, ∀ c y, es[i]? = some c → c[j]? = some y → w.cell? ⟨g, o + (i * cs.length + j), none⟩ = some x ∧ VR w M J y x ∧ x.oneCell' = true := by
        intro i j
        by_cases hex : ∃ c y, es[i]? = some c ∧ c[j]? = some y
        · obtain ⟨c, y, h1, h2⟩ := hex
          obtain ⟨x, k1, k2, k3⟩ := hcell i j c y h1 h2
          refine ⟨x, fun c' y' h1' h2' => ?_⟩
          rw [h1] at h1'
          cases h1'
          rw [h2] at h2'
          cases h2'
          exact ⟨k1, k2, k3⟩
        · exact ⟨undef, fun c y h1 h2 => absurd ⟨c, y, h1, h2⟩ hex⟩
      have key := VR.tl (w := w) (M := M0) (J := J0) wo cs.length es' (some ⟨g, o, none⟩) c g o (fun i j => Classical.choose (hf i j)) (fun _ => ⟨rfl, hok, hpos⟩) (by rw [l1]; exact hc) ?_ ?_ ?_
      · rw [l1] at key
        exact key
      · intro i c' hi
        obtain ⟨c, h1, h2⟩ := back i c' hi
        have := (sealCs_sound hh hs cs c c' h2).1
        rw [this.1, hz i c h1]
      · intro i j c' x hi hj
        obtain ⟨c, h1, h2⟩ := back i c' hi
        obtain ⟨y, hy, _⟩ := (sealCs_sound hh hs cs c c' h2).2 j x hj
        have := Classical.choose_spec (hf i j) c y h1 hy
        exact ⟨this.1, this.2.2⟩
      · intro i j c' x hi hj
        obtain ⟨c, h1, h2⟩ := back i c' hi
        obtain ⟨y, hy, hq⟩ := (sealCs_sound hh hs cs c c' h2).2 j x hj
        exact hq _ (Classical.choose_spec (hf i j) c y h1 hy).2.1
  | .pt cs, v, v', u, h, hv => by
    have hrec := sealCs_sound hh hs cs
    simp only [sealV] at h
    split at h
    · rename_i r z n i o
      simp only [Option.bind_eq_some_iff, Option.map_eq_some_iff] at h
      obtain ⟨R, hR, c, hc, d, hd, c', hc', rfl⟩ := h
      obtain ⟨m, cur, hm, hr, rfl, hes, rfl⟩ := elAt_spec hh hv hR hc
      obtain ⟨e1, e2, e3⟩ := hr.elem hes
      obtain ⟨q1, q2, q3⟩ := cut_spec e3 hd
      obtain ⟨k1, k2⟩ := hrec d c' hc'
      have hlen : d.length = (((List.take R.z (List.drop (i * R.z) cur.toList)).drop o).take cs.length).length := q3.1.symm
      have hget : ∀ (j : Nat) (y : V), d[j]? = some y → ∃ x, w.cell? ⟨m.g, i * R.z + o + j, none⟩ = some x ∧ VR w M J y x := by
        intro j y hy
        have hlt : j < (((List.take R.z (List.drop (i * R.z) cur.toList)).drop o).take cs.length).length := by rw [← hlen]; exact (List.getElem?_eq_some_iff.1 hy).1
        have hx := List.getElem?_eq_getElem hlt
        refine ⟨_, ?_, q3.2 j y _ hy hx⟩
        rw [List.getElem?_take] at hx
        split at hx
        · rw [List.getElem?_drop, List.getElem?_take] at hx
          split at hx
          · rw [List.getElem?_drop, Array.getElem?_toList] at hx
            rw [cell_of_row w m.g _ cur R.e (0, 0) hr.heap, Nat.add_assoc]
            exact hx
          · cases hx
        · cases hx
      have hf : ∀ j, ∃ x : Value, ∀ y, d[j]? = some y → w.cell? ⟨m.g, i * R.z + o + j, none⟩ = some x ∧ VR w M J y x := by
        intro j
        by_cases hex : ∃ y, d[j]? = some y
        · obtain ⟨y, h1⟩ := hex
          obtain ⟨x, k1, k2⟩ := hget j y h1
          refine ⟨x, fun y' h1' => ?_⟩
          rw [h1] at h1'
          cases h1'
          exact ⟨k1, k2⟩
        · exact ⟨undef, fun y h1 => absurd ⟨y, h1⟩ hex⟩
      refine .pe c' m.g _ (fun j => Classical.choose (hf j)) (fun _ => hs.rows rfl m (List.mem_of_getElem? hm)) (fun j x hj => ?_) (fun j x hj => ?_)
      · obtain ⟨y, hy, _⟩ := k2 j x hj
        exact (Classical.choose_spec (hf j) y hy).1
      · obtain ⟨y, hy, hq⟩ := k2 j x hj
        exact hq _ (Classical.choose_spec (hf j) y hy).2
    · rename_i c
      simp only [Option.map_eq_some_iff] at h
      obtain ⟨c', hc', rfl⟩ := h
      obtain ⟨k1, k2⟩ := hrec c c' hc'
      cases hv with
      | pe _ g o f ha hc hvv =>
        refine .pe c' g o f (fun hne => hs.tls true g (ha fun e => hne (List.eq_nil_of_length_eq_zero (by rw [k1.1, e]; rfl))) fun _ => rfl) (fun j x hj => ?_) (fun j x hj => ?_)
        · obtain ⟨y, hy, _⟩ := k2 j x hj
          exact hc j y hy
        · obtain ⟨y, hy, hq⟩ := k2 j x hj
          exact hq _ (hvv j y hy)
    · cases h
  | .ag cs, v, v', u, h, hv => by
    simp only [sealV] at h
    split at h
    · rename_i c
      simp only [Option.map_eq_some_iff] at h
      obtain ⟨c', hc', rfl⟩ := h
      obtain ⟨k1, k2⟩ := sealCs_sound hh hs cs c c' hc'
      cases hv with
      | agg _ vs hl hvv =>
        refine .agg c' vs (by rw [hl, k1.1]) fun j x u hx hu => ?_
        obtain ⟨y, hy, hq⟩ := k2 j x hx
        exact hq u (hvv j y u hy hu)
    · cases h
  | .tu cs, v, v', u, h, hv => by
    simp only [sealV] at h
    split at h
    · rename_i c
      simp only [Option.map_eq_some_iff] at h
      obtain ⟨c', hc', rfl⟩ := h
      obtain ⟨k1, k2⟩ := sealCs_sound hh hs cs c c' hc'
      cases hv with
      | tup _ vs hl hvv =>
        refine .tup c' vs (by rw [hl, k1.1]) fun j x u hx hu => ?_
        obtain ⟨y, hy, hq⟩ := k2 j x hx
        exact hq u (hvv j y u hy hu)
    · cases h
theorem sealCs_sound (hh : HR w M J H) (hs : SealOk w M J M0 J0 wo own lent) : ∀ (shs : List Sh) (c c' : List V), sealCs wo own lent H shs c = some c' →
    (c'.length = c.length ∧ c'.length = shs.length) ∧ ∀ (j : Nat) (x : V), c'[j]? = some x → ∃ y, c[j]? = some y ∧ ∀ u, VR w M J y u → VR w M0 J0 x u
  | [], c, c', h => by
    simp only [sealCs] at h
    split at h
    · cases h; exact ⟨⟨rfl, rfl⟩, by simp⟩
    · cases h
  | sh :: shs, c, c', h => by
    simp only [sealCs] at h
    split at h
    · rename_i v vs
      simp only [Option.bind_eq_some_iff, Option.map_eq_some_iff] at h
      obtain ⟨v', hv', vs', hvs', rfl⟩ := h
      obtain ⟨k1, k2⟩ := sealCs_sound hh hs shs vs vs' hvs'
      refine ⟨⟨by simp [k1.1], by simp [k1.2]⟩, fun j x hj => ?_⟩
      cases j with
      | zero => simp at hj; subst hj; exact ⟨v, rfl, fun u hu => sealV_sound hh hs sh v _ u hv' hu⟩
      | succ j => obtain ⟨y, hy, hq⟩ := k2 j x (by simpa using hj); exact ⟨y, by simpa using hy, hq⟩
    · cases h
end

end
end Go.Am
